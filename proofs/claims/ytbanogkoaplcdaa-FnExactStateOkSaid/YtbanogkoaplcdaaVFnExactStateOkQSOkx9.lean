/- What the functions behind SOk compute, and that the program's calls come to just that. Written by a program of this session on the base of the kit's print. No condition. -/
import Derived.Test.YtbanogkoaplcdaaVFnExactStateOkShort
import Derived.Test.YtbanogkoaplcdaaVFnExactStateOkQSOkx0
import Derived.Test.YtbanogkoaplcdaaVFnExactStateOkQSOkx1
import Derived.Test.YtbanogkoaplcdaaVFnExactStateOkQSOkx6
import Derived.Test.YtbanogkoaplcdaaVFnExactStateOkQSOkx7
namespace Go.Proofs.Ytbanogkoaplcdaa.QSOk
open Go.RowKit Go.Proofs.Ytbanogkoaplcdaa.Short Go.Proofs.YtbanogkoaplcdaaW.PrintWords Go.Proofs.YtbanogkoaplcdaaW.PrintLast Go.Proofs.YtbanogkoaplcdaaW.PrintMore
attribute [local go_sem] max2_int min2_int max_two min_two max_three min_three max_four min_four   -- for this text's walks alone
set_option linter.unusedVariables false
set_option linter.unusedSimpArgs false
attribute [local go_sem high] eqA38
theorem z9_10 {P : Prop} (h : P := by (try simp only [List.map_toArray, List.map_cons, List.map_nil]); first | done | (simp only [hji16]; rfl) | rfl | (simp only [List.length_drop, List.length_take]; rfl)) : P := h
theorem z9_9 {P : Prop} (h : P := by (try simp only [List.map_toArray, List.map_cons, List.map_nil]); first | done | (simp only [hji48]; rfl) | rfl | (simp only [List.length_drop, List.length_take]; rfl)) : P := h
theorem z9_8 {P : Prop} (h : P := by first | rfl | (simp; done) | (simp [*]; done)) : P := h
theorem z9_7 {P : Prop} (h : P := by first | rfl | (simp [errW_none, errW_some] <;> rfl) | (simp [*, errW_none, errW_some] <;> rfl)) : P := h
theorem z9_6 {P : Prop} (h : P := by first | (with_reducible assumption) | assumption) : P := h
theorem z9_5 {P : Prop} (h : P := by (with_reducible repeat (first | refine blk_drewN ?_ _ | refine blk_drew ?_ | refine blk_alloc ?_ _)); exact BK243.out) : P := h
theorem z9_4 {P : Prop} (h : P := by first | rfl | (simp only [List.map_toArray, List.map_cons, List.map_nil]; first | done | rfl)) : P := h
theorem z9_3 {P : Prop} (h : P := by repeat (first | (with_reducible first | exact HB.out | apply below_alloc | apply pw_below_drewN | apply below_drew1) | exact HB.out)) : P := h
theorem z9_2 {P : Prop} (h : P := by kernel_rfl) : P := h
theorem z9_1 {P : Prop} (h : P := by repeat (first | (with_reducible first | exact HB.out | apply below_alloc | apply pw_below_drewN | apply below_drew1 | refine below_set ?_ GE243.out) | exact HB.out)) : P := h
theorem z9_0 {P : Prop} (h : P := by (with_reducible repeat (first | refine blk_drewN ?_ _ | refine blk_drew ?_ | refine blk_alloc ?_ _)); refine blk_put (cs := #[.string ((rd_T73 l0 x3_1).f0), .int .i64 ((rd_T73 l0 x3_1).f1.f0), .int .i64 ((rd_T73 l0 x3_1).f1.f1), .int .i64 ((rd_T73 l0 x3_1).f2), .int .i64 ((rd_T73 l0 x3_1).f3.f0), .int .i64 ((rd_T73 l0 x3_1).f3.f1), .int .i64 ((rd_T73 l0 x3_1).f4), .bool false]) ?_ 7 _ rfl; (with_reducible repeat (first | refine blk_drewN ?_ _ | refine blk_drew ?_ | refine blk_alloc ?_ _)); refine blk_put (cs := #[.string ((rd_T73 l0 x3_1).f0), .int .i64 ((rd_T73 l0 x3_1).f1.f0), .int .i64 ((rd_T73 l0 x3_1).f1.f1), .int .i64 ((rd_T73 l0 x3_1).f2), .int .i64 ((rd_T73 l0 x3_1).f3.f0), .int .i64 ((rd_T73 l0 x3_1).f3.f1), .int .i64 0, .bool false]) ?_ 6 _ rfl; (with_reducible repeat (first | refine blk_drewN ?_ _ | refine blk_drew ?_ | refine blk_alloc ?_ _)); refine blk_put (cs := #[.string ((rd_T73 l0 x3_1).f0), .int .i64 ((rd_T73 l0 x3_1).f1.f0), .int .i64 ((rd_T73 l0 x3_1).f1.f1), .int .i64 ((rd_T73 l0 x3_1).f2), .int .i64 ((rd_T73 l0 x3_1).f3.f0), .int .i64 0, .int .i64 0, .bool false]) ?_ 5 _ rfl; (with_reducible repeat (first | refine blk_drewN ?_ _ | refine blk_drew ?_ | refine blk_alloc ?_ _)); refine blk_put (cs := #[.string ((rd_T73 l0 x3_1).f0), .int .i64 ((rd_T73 l0 x3_1).f1.f0), .int .i64 ((rd_T73 l0 x3_1).f1.f1), .int .i64 ((rd_T73 l0 x3_1).f2), .int .i64 0, .int .i64 0, .int .i64 0, .bool false]) ?_ 4 _ rfl; (with_reducible repeat (first | refine blk_drewN ?_ _ | refine blk_drew ?_ | refine blk_alloc ?_ _)); refine blk_put (cs := #[.string ((rd_T73 l0 x3_1).f0), .int .i64 ((rd_T73 l0 x3_1).f1.f0), .int .i64 ((rd_T73 l0 x3_1).f1.f1), .int .i64 0, .int .i64 0, .int .i64 0, .int .i64 0, .bool false]) ?_ 3 _ rfl; (with_reducible repeat (first | refine blk_drewN ?_ _ | refine blk_drew ?_ | refine blk_alloc ?_ _)); refine blk_put (cs := #[.string ((rd_T73 l0 x3_1).f0), .int .i64 ((rd_T73 l0 x3_1).f1.f0), .int .i64 0, .int .i64 0, .int .i64 0, .int .i64 0, .int .i64 0, .bool false]) ?_ 2 _ rfl; (with_reducible repeat (first | refine blk_drewN ?_ _ | refine blk_drew ?_ | refine blk_alloc ?_ _)); refine blk_put (cs := #[.string ((rd_T73 l0 x3_1).f0), .int .i64 0, .int .i64 0, .int .i64 0, .int .i64 0, .int .i64 0, .int .i64 0, .bool false]) ?_ 1 _ rfl; (with_reducible repeat (first | refine blk_drewN ?_ _ | refine blk_drew ?_ | refine blk_alloc ?_ _)); refine blk_put (cs := #[.string (⟨#[]⟩ : ByteArray), .int .i64 0, .int .i64 0, .int .i64 0, .int .i64 0, .int .i64 0, .int .i64 0, .bool false]) ?_ 0 _ rfl; (with_reducible repeat (first | refine blk_drewN ?_ _ | refine blk_drew ?_ | refine blk_alloc ?_ _)); exact BK243.out) : P := h
abbrev mk9_0 : Array Bool := #[false, false, false, false, false, false, false, false, false, false, false, false, false, false, false, false, false, false, false, false, false, false, false, false, false, false, false, false, false, false, false, false, false, false, false, false, false, false, false, false, false, false, false, false, false, false, false, false, false, false]
abbrev mk9_1 : Array Bool := #[true, false, false, false, false, false, false, false, false, false, false, false, false, false, false, false, false, false, false, false, false, false, false, false, false, false, false, false, false, false, false, false, false, false, false, false, false, false, false, false, false, false, false, false, false, false, false, false, false, false]
abbrev mk9_2 : Array Bool := #[true, true, false, false, false, false, false, false, false, false, false, false, false, false, false, false, false, false, false, false, false, false, false, false, false, false, false, false, false, false, false, false, false, false, false, false, false, false, false, false, false, false, false, false, false, false, false, false, false, false]
abbrev mk9_3 : Array Bool := #[true, true, true, false, false, false, false, false, false, false, false, false, false, false, false, false, false, false, false, false, false, false, false, false, false, false, false, false, false, false, false, false, false, false, false, false, false, false, false, false, false, false, false, false, false, false, false, false, false, false]
abbrev mk9_4 : Array Bool := #[true, true, true, true, false, false, false, false, false, false, false, false, false, false, false, false, false, false, false, false, false, false, false, false, false, false, false, false, false, false, false, false, false, false, false, false, false, false, false, false, false, false, false, false, false, false, false, false, false, false]
abbrev mk9_5 : Array Bool := #[true, true, true, true, true, false, false, false, false, false, false, false, false, false, false, false, false, false, false, false, false, false, false, false, false, false, false, false, false, false, false, false, false, false, false, false, false, false, false, false, false, false, false, false, false, false, false, false, false, false]
abbrev mk9_6 : Array Bool := #[true, true, true, true, true, true, false, false, false, false, false, false, false, false, false, false, false, false, false, false, false, false, false, false, false, false, false, false, false, false, false, false, false, false, false, false, false, false, false, false, false, false, false, false, false, false, false, false, false, false]
abbrev mk9_7 : Array Bool := #[true, true, true, true, true, true, true, false, false, false, false, false, false, false, false, false, false, false, false, false, false, false, false, false, false, false, false, false, false, false, false, false, false, false, false, false, false, false, false, false, false, false, false, false, false, false, false, false, false, false]
abbrev mk9_8 : Array Bool := #[true, true, true, true, true, true, true, true, false, false, false, false, false, false, false, false, false, false, false, false, false, false, false, false, false, false, false, false, false, false, false, false, false, false, false, false, false, false, false, false, false, false, false, false, false, false, false, false, false, false]
abbrev mk9_9 : Array Bool := #[true, true, true, true, true, true, true, true, true, false, false, false, false, false, false, false, false, false, false, false, false, false, false, false, false, false, false, false, false, false, false, false, false, false, false, false, false, false, false, false, false, false, false, false, false, false, false, false, false, false]
abbrev mk9_10 : Array Bool := #[true, true, true, true, true, true, true, true, true, true, false, false, false, false, false, false, false, false, false, false, false, false, false, false, false, false, false, false, false, false, false, false, false, false, false, false, false, false, false, false, false, false, false, false, false, false, false, false, false, false]
abbrev mk9_11 : Array Bool := #[true, true, true, true, true, true, true, true, true, true, true, false, false, false, false, false, false, false, false, false, false, false, false, false, false, false, false, false, false, false, false, false, false, false, false, false, false, false, false, false, false, false, false, false, false, false, false, false, false, false]
abbrev mk9_12 : Array Bool := #[true, true, true, true, true, true, true, true, true, true, true, true, false, false, false, false, false, false, false, false, false, false, false, false, false, false, false, false, false, false, false, false, false, false, false, false, false, false, false, false, false, false, false, false, false, false, false, false, false, false]
abbrev mk9_13 : Array Bool := #[true, true, true, true, true, true, true, true, true, true, true, true, true, false, false, false, false, false, false, false, false, false, false, false, false, false, false, false, false, false, false, false, false, false, false, false, false, false, false, false, false, false, false, false, false, false, false, false, false, false]
abbrev mk9_14 : Array Bool := #[true, true, true, true, true, true, true, true, true, true, true, true, true, true, false, false, false, false, false, false, false, false, false, false, false, false, false, false, false, false, false, false, false, false, false, false, false, false, false, false, false, false, false, false, false, false, false, false, false, false]
abbrev mk9_15 : Array Bool := #[true, true, true, true, true, true, true, true, true, true, true, true, true, true, true, false, false, false, false, false, false, false, false, false, false, false, false, false, false, false, false, false, false, false, false, false, false, false, false, false, false, false, false, false, false, false, false, false, false, false]
abbrev mk9_16 : Array Bool := #[true, true, true, true, true, true, true, true, true, true, true, true, true, true, true, true, false, false, false, false, false, false, false, false, false, false, false, false, false, false, false, false, false, false, false, false, false, false, false, false, false, false, false, false, false, false, false, false, false, false]
abbrev mk9_17 : Array Bool := #[true, true, true, true, true, true, true, true, true, true, true, true, true, true, true, true, true, false, false, false, false, false, false, false, false, false, false, false, false, false, false, false, false, false, false, false, false, false, false, false, false, false, false, false, false, false, false, false, false, false]
abbrev mk9_18 : Array Bool := #[true, true, true, true, true, true, true, true, true, true, true, true, true, true, true, true, true, true, false, false, false, false, false, false, false, false, false, false, false, false, false, false, false, false, false, false, false, false, false, false, false, false, false, false, false, false, false, false, false, false]
abbrev mk9_19 : Array Bool := #[true, true, true, true, true, true, true, true, true, true, true, true, true, true, true, true, true, true, true, false, false, false, false, false, false, false, false, false, false, false, false, false, false, false, false, false, false, false, false, false, false, false, false, false, false, false, false, false, false, false]
abbrev mk9_20 : Array Bool := #[true, true, true, true, true, true, true, true, true, true, true, true, true, true, true, true, true, true, true, true, false, false, false, false, false, false, false, false, false, false, false, false, false, false, false, false, false, false, false, false, false, false, false, false, false, false, false, false, false, false]
abbrev mk9_21 : Array Bool := #[true, true, true, true, true, true, true, true, true, true, true, true, true, true, true, true, true, true, true, true, true, false, false, false, false, false, false, false, false, false, false, false, false, false, false, false, false, false, false, false, false, false, false, false, false, false, false, false, false, false]
abbrev mk9_22 : Array Bool := #[true, true, true, true, true, true, true, true, true, true, true, true, true, true, true, true, true, true, true, true, true, true, false, false, false, false, false, false, false, false, false, false, false, false, false, false, false, false, false, false, false, false, false, false, false, false, false, false, false, false]
abbrev mk9_23 : Array Bool := #[true, true, true, true, true, true, true, true, true, true, true, true, true, true, true, true, true, true, true, true, true, true, true, false, false, false, false, false, false, false, false, false, false, false, false, false, false, false, false, false, false, false, false, false, false, false, false, false, false, false]
abbrev mk9_24 : Array Bool := #[true, true, true, true, true, true, true, true, true, true, true, true, true, true, true, true, true, true, true, true, true, true, true, true, false, false, false, false, false, false, false, false, false, false, false, false, false, false, false, false, false, false, false, false, false, false, false, false, false, false]
abbrev mk9_25 : Array Bool := #[true, true, true, true, true, true, true, true, true, true, true, true, true, true, true, true, true, true, true, true, true, true, true, true, false, true, false, false, false, false, false, false, false, false, false, false, false, false, false, false, false, false, false, false, false, false, false, false, false, false]
abbrev mk9_26 : Array Bool := #[true, true, true, true, true, true, true, true, true, true, true, true, true, true, true, true, true, true, true, true, true, true, true, true, true, true, false, false, false, false, false, false, false, false, false, false, false, false, false, false, false, false, false, false, false, false, false, false, false, false]
abbrev mk9_27 : Array Bool := #[true, true, true, true, true, true, true, true, true, true, true, true, true, true, true, true, true, true, true, true, true, true, true, true, true, true, true, false, false, false, false, false, false, false, false, false, false, false, false, false, false, false, false, false, false, false, false, false, false, false]
abbrev mk9_28 : Array Bool := #[true, true, true, true, true, true, true, true, true, true, true, true, true, true, true, true, true, true, true, true, true, true, true, true, true, true, true, true, false, false, false, false, false, false, false, false, false, false, false, false, false, false, false, false, false, false, false, false, false, false]
abbrev mk9_29 : Array Bool := #[true, true, true, true, true, true, true, true, true, true, true, true, true, true, true, true, true, true, true, true, true, true, true, true, true, true, true, true, true, false, false, false, false, false, false, false, false, false, false, false, false, false, false, false, false, false, false, false, false, false]
abbrev mk9_30 : Array Bool := #[true, true, true, true, true, true, true, true, true, true, true, true, true, true, true, true, true, true, true, true, true, true, true, true, true, true, true, true, true, true, false, false, false, false, false, false, false, false, false, false, false, false, false, false, false, false, false, false, false, false]
abbrev mk9_31 : Array Bool := #[true, true, true, true, true, true, true, true, true, true, true, true, true, true, true, true, true, true, true, true, true, true, true, true, true, true, true, true, true, true, true, false, false, false, false, false, false, false, false, false, false, false, false, false, false, false, false, false, false, false]
abbrev mk9_32 : Array Bool := #[true, true, true, true, true, true, true, true, true, true, true, true, true, true, true, true, true, true, true, true, true, true, true, true, true, true, true, true, true, true, true, true, false, false, false, false, false, false, false, false, false, false, false, false, false, false, false, false, false, false]
abbrev mk9_33 : Array Bool := #[true, true, true, true, true, true, true, true, true, true, true, true, true, true, true, true, true, true, true, true, true, true, true, true, true, true, true, true, true, true, true, true, true, false, false, false, false, false, false, false, false, false, false, false, false, false, false, false, false, false]
abbrev mk9_34 : Array Bool := #[true, true, true, true, true, true, true, true, true, true, true, true, true, true, true, true, true, true, true, true, true, true, true, true, true, true, true, true, true, true, true, true, true, true, false, false, false, false, false, false, false, false, false, false, false, false, false, false, false, false]
abbrev mk9_35 : Array Bool := #[true, true, true, true, true, true, true, true, true, true, true, true, true, true, true, true, true, true, true, true, true, true, true, true, true, true, true, true, true, true, true, true, true, true, true, false, false, false, false, false, false, false, false, false, false, false, false, false, false, false]
abbrev mk9_36 : Array Bool := #[true, true, true, true, true, true, true, true, true, true, true, true, true, true, true, true, true, true, true, true, true, true, true, true, true, true, true, true, true, true, true, true, true, true, true, true, false, false, false, false, false, false, false, false, false, false, false, false, false, false]
abbrev mk9_37 : Array Bool := #[true, true, true, true, true, true, true, true, true, true, true, true, true, true, true, true, true, true, true, true, true, true, true, true, true, true, true, true, true, true, true, true, true, true, true, true, true, false, false, false, false, false, false, false, false, false, false, false, false, false]
abbrev mk9_38 : Array Bool := #[true, true, true, true, true, true, true, true, true, true, true, true, true, true, true, true, true, true, true, true, true, true, true, true, true, true, true, true, true, true, true, true, true, true, true, true, true, true, false, false, false, false, false, false, false, false, false, false, false, false]
abbrev mk9_39 : Array Bool := #[true, true, true, true, true, true, true, true, true, true, true, true, true, true, true, true, true, true, true, true, true, true, true, true, true, true, true, true, true, true, true, true, true, true, true, true, true, true, true, false, false, false, false, false, false, false, false, false, false, false]
abbrev mk9_40 : Array Bool := #[true, true, true, true, true, true, true, true, true, true, true, true, true, true, true, true, true, true, true, true, true, true, true, true, true, true, true, true, true, true, true, true, true, true, true, true, true, true, true, true, false, false, false, false, false, false, false, false, false, false]
abbrev mk9_41 : Array Bool := #[true, true, true, true, true, true, true, true, true, true, true, true, true, true, true, true, true, true, true, true, true, true, true, true, true, true, true, true, true, true, true, true, true, true, true, true, true, true, true, true, true, false, false, false, false, false, false, false, false, false]
abbrev mk9_42 : Array Bool := #[true, true, true, true, true, true, true, true, true, true, true, true, true, true, true, true, true, true, true, true, true, true, true, true, true, true, true, true, true, true, true, true, true, true, true, true, true, true, true, true, true, true, false, false, false, false, false, false, false, false]
abbrev mk9_43 : Array Bool := #[true, true, true, true, true, true, true, true, true, true, true, true, true, true, true, true, true, true, true, true, true, true, true, true, true, true, true, true, true, true, true, true, true, true, true, true, true, true, true, true, true, true, true, false, false, false, false, false, false, false]
abbrev mk9_44 : Array Bool := #[true, true, true, true, true, true, true, true, true, true, true, true, true, true, true, true, true, true, true, true, true, true, true, true, true, true, true, true, true, true, true, true, true, true, true, true, true, true, true, true, true, true, true, false, true, false, false, false, false, false]
abbrev mk9_45 : Array Bool := #[true, true, true, true, true, true, true, true, true, true, true, true, true, true, true, true, true, true, true, true, true, true, true, true, true, true, true, true, true, true, true, true, true, true, true, true, true, true, true, true, true, true, true, true, true, false, false, false, false, false]
abbrev mk9_46 : Array Bool := #[true, true, true, true, true, true, true, true, true, true, true, true, true, true, true, true, true, true, true, true, true, true, true, true, true, true, true, true, true, true, true, true, true, true, true, true, true, true, true, true, true, true, true, true, true, true, false, false, false, false]
abbrev mk9_47 : Array Bool := #[true, true, true, true, true, true, true, true, true, true, true, true, true, true, true, true, true, true, true, true, true, true, true, true, true, true, true, true, true, true, true, true, true, true, true, true, true, true, true, true, true, true, true, true, true, true, true, false, false, false]
abbrev mk9_48 : Array Bool := #[true, true, true, true, true, true, true, true, true, true, true, true, true, true, true, true, true, true, true, true, true, true, true, true, true, true, true, true, true, true, true, true, true, true, true, true, true, true, true, true, true, true, true, true, true, true, true, true, false, false]
abbrev mk9_49 : Array Bool := #[true, true, true, true, true, true, true, true, true, true, true, true, true, true, true, true, true, true, true, true, true, true, true, true, true, true, true, true, true, true, true, true, true, true, true, true, true, true, true, true, true, true, true, true, true, true, true, true, true, false]
abbrev mk9_50 : Array Bool := #[true, true, true, true, true, true, true, true, true, true, true, true, true, true, true, true, true, true, true, true, true, true, true, true, true, true, true, true, true, true, true, true, true, true, true, true, true, true, true, true, true, true, true, true, true, true, true, true, true, true]
abbrev mk9_51 : Array Bool := #[true, true, true, true, true, true, true, true, true, true, true, true, true, true, true, true, true, true, true, true, true, true, true, true, true, true, true, true, true, true, true, true, true, true, true, true, true, true, true, true, true, true, true, true, false, false, false, false, false, false]
abbrev mk9_52 : Array Bool := #[true, true, true, true, true, true, true, true, true, true, true, true, true, true, true, true, true, true, true, true, true, true, true, true, true, false, false, false, false, false, false, false, false, false, false, false, false, false, false, false, false, false, false, false, false, false, false, false, false, false]
def spec_l06Cells.l0 : Nat → List (S73) → Int → Option (Bool)
  | 0, _, _ => none
  | k + 1, x0, x3 => if x3 < (x0.length : Int) then (if 0 ≤ x3 then ((spec_DotOk.f ((rd_T73 x0 x3).f1.f0) ((rd_T73 x0 x3).f1.f1)).bind fun t244 => (if t244 = true then ((spec_NameOk.f k ((rd_T73 x0 x3).f0)).bind fun t245 => (if t245 = true then ((spec_l01In.f ((rd_T73 x0 x3).f2) 1 10000).bind fun t246 => (if t246 = true then ((spec_l01In.f ((rd_T73 x0 x3).f4) 0 999999).bind fun t247 => (if t247 = true then (if (!(((rd_T73 x0 x3).f3.f0) == 0) || (!(((rd_T73 x0 x3).f3.f1) == 0))) = true then ((spec_DotOk.f ((rd_T73 x0 x3).f3.f0) ((rd_T73 x0 x3).f3.f1)).bind fun t248 => (if t248 = true then (if x3 > 0 then (if 0 ≤ (wrap64 (x3 - 1)) then (if (wrap64 (x3 - 1)) < (x0.length : Int) then ((spec_l06Before.f ((rd_T73 x0 (wrap64 (x3 - 1))).f1.f0) ((rd_T73 x0 (wrap64 (x3 - 1))).f1.f1) ((rd_T73 x0 x3).f1.f0) ((rd_T73 x0 x3).f1.f1)).bind fun t250 => (if t250 = true then (spec_l06Cells.l0 k x0 (wrap64 (x3 + 1))) else (some false))) else (none)) else (none)) else (spec_l06Cells.l0 k x0 (wrap64 (x3 + 1)))) else (some false))) else (if x3 > 0 then (if 0 ≤ (wrap64 (x3 - 1)) then (if (wrap64 (x3 - 1)) < (x0.length : Int) then ((spec_l06Before.f ((rd_T73 x0 (wrap64 (x3 - 1))).f1.f0) ((rd_T73 x0 (wrap64 (x3 - 1))).f1.f1) ((rd_T73 x0 x3).f1.f0) ((rd_T73 x0 x3).f1.f1)).bind fun t252 => (if t252 = true then (spec_l06Cells.l0 k x0 (wrap64 (x3 + 1))) else (some false))) else (none)) else (none)) else (spec_l06Cells.l0 k x0 (wrap64 (x3 + 1))))) else (some false))) else (some false))) else (some false))) else (some false))) else (none)) else (some (decide ((x0.length : Int) ≤ 120)))
def spec_l06Cells.f (k : Nat) (l0 : List (S73)) : Option (Bool) := spec_l06Cells.l0 k l0 0
def spec_l06Cells.T5 : Bool × List (List Nat × List Nat) := (true, [([], []), ([0], [0]), ([1], [1]), ([2], [2]), ([3, 2], [3]), ([4], [4]), ([5, 4], [4, 5]), ([6, 4, 4], [4, 6]), ([7, 4], [4, 7]), ([4, 8], [4, 8]), ([9, 7], [9]), ([10], [10]), ([11, 10], [10, 11]), ([12, 10, 10], [10, 12]), ([13, 10], [10, 13]), ([10, 14], [10, 14]), ([15, 13], [15]), ([16], [16]), ([17, 16], [16, 17]), ([18, 16, 16], [16, 18]), ([19, 16], [16, 19]), ([16, 20], [16, 20]), ([21, 19], [21]), ([22], [22]), ([23, 22], [22, 23]), ([22], [22]), ([24, 25, 22], [22, 24, 25]), ([26, 22, 22], [22, 26]), ([27], [27]), ([28, 27], [27, 28]), ([29, 27, 27], [27, 29]), ([30, 27], [27, 30]), ([27, 31, 22], [22, 27, 31]), ([22, 32], [22, 32]), ([33, 30], [33]), ([34], [34]), ([35, 34], [34, 35]), ([36, 34, 34], [34, 36]), ([37], [37]), ([37], [37]), ([39, 37], [37, 39]), ([38, 40, 37], [37, 38, 40]), ([41, 37], [37, 41]), ([42, 37], [37, 42]), ([37], [37]), ([44, 37], [37, 44]), ([43, 45, 37, 37], [37, 43, 45]), ([46, 37], [37, 46]), ([37, 47, 34], [34, 37, 47]), ([34, 48], [34, 48])])
def spec_l06Cells.B5 : List Nat := [0, 1, 3, 7, 15, 31, 63, 127, 255, 511, 1023, 2047, 4095, 8191, 16383, 32767, 65535, 131071, 262143, 524287, 1048575, 2097151, 4194303, 8388607, 16777215, 8388607, 67108863, 134217727, 268435455, 536870911, 1073741823, 2147483647, 4294967295, 8589934591, 17179869183, 34359738367, 68719476735, 137438953471, 274877906943, 274877906943, 824633720831, 2199023255551, 4398046511103, 8796093022207, 274877906943, 17867063951359, 70368744177663, 140737488355327, 281474976710655, 562949953421311]
theorem spec_l06Cells.tab5 : rtab .any (opsOf Try.f59 5) = spec_l06Cells.T5 := by kernel_rfl
theorem spec_l06Cells.bits5 : waitsOk spec_l06Cells.T5.2 spec_l06Cells.B5 = true := by kernel_rfl
set_option maxHeartbeats 8000000 in
set_option maxRecDepth 100000 in
theorem spec_l06Cells.calls (k : Nat) (A0 : Option Addr) (c0 : Nat) (l0 : List (S73)) (r : Bool) (w : World) (hr0 : Kd.C k73 w A0 l0.length l0) (hc0 : l0.length ≤ c0) (h : spec_l06Cells.f k l0 = some r) :
  Calls Try.prog 59 #[.slice A0 l0.length c0] w fun e w' => e = .returned (.bool r) ∧ Below w.heap.size w w' := by
 have hu73 := Try.underlying73
 have hu38 := Try.underlying38
 have HR0 := Aside0.mk hr0
 have HC0 := Aside0.mk hc0
 clear hr0 hc0
 have HB := Aside0.mk (Below.refl w.heap.size w)
 have H : (spec_l06Cells.l0 k l0 0) = some r := h
 clear h
 have H' := Aside0.mk H
 clear H
 go_enter Try.func59, Try.ntmps59
 go_wp2
 go_loopg [3] k (fun kq v3 w' => ∃ (x3_1 : Int), v3 = .int .i64 x3_1 ∧ Aside0 (spec_l06Cells.l0 kq l0 x3_1 = some r) ∧ Aside0 (kq ≤ k) ∧ Aside0 (Below w.heap.size w w'))
 case atStart => exact ⟨(0), z9_8, H', ⟨Nat.le_refl _⟩, ⟨z9_3⟩⟩
 case round =>
  clear H'
  obtain ⟨x3_1, rfl, HA, HK1, HB⟩ := hrel
  cases gk with
  | zero => exact absurd HA.out (by simp [spec_l06Cells.l0])
  | succ k1 =>
   have H := HA.out
   clear HA
   simp only [spec_l06Cells.l0] at H
   by_cases c2 : x3_1 < (l0.length : Int)
   ·
    rw [if_pos c2] at H
    have c2b0 : decide (x3_1 < (l0.length : Int)) = true := decide_eq_true c2
    clear c2
    by_cases c3 : 0 ≤ x3_1
    ·
     rw [if_pos c3] at H
     have c3b0 : decide (0 ≤ x3_1) = true := decide_eq_true c3
     clear c3
     replace H := Option.bind_eq_some_iff.mp H
     obtain ⟨t244, A40, H⟩ := H
     (try dsimp only at H)
     have A4 := Aside0.mk A40
     clear A40
     by_cases c5 : t244 = true
     ·
      subst c5
      rw [if_pos rfl] at H
      replace H := Option.bind_eq_some_iff.mp H
      obtain ⟨t245, A60, H⟩ := H
      (try dsimp only at H)
      have A6 := Aside0.mk A60
      clear A60
      by_cases c7 : t245 = true
      ·
       subst c7
       rw [if_pos rfl] at H
       replace H := Option.bind_eq_some_iff.mp H
       obtain ⟨t246, A80, H⟩ := H
       (try dsimp only at H)
       have A8 := Aside0.mk A80
       clear A80
       by_cases c9 : t246 = true
       ·
        subst c9
        rw [if_pos rfl] at H
        replace H := Option.bind_eq_some_iff.mp H
        obtain ⟨t247, A100, H⟩ := H
        (try dsimp only at H)
        have A10 := Aside0.mk A100
        clear A100
        by_cases c11 : t247 = true
        ·
         subst c11
         rw [if_pos rfl] at H
         by_cases c12 : (!(((rd_T73 l0 x3_1).f3.f0) == 0) || (!(((rd_T73 l0 x3_1).f3.f1) == 0))) = true
         ·
          rw [if_pos c12] at H
          have c12b0 : (!(((rd_T73 l0 x3_1).f3.f0) == 0) || (!(((rd_T73 l0 x3_1).f3.f1) == 0))) = true := c12
          clear c12
          replace H := Option.bind_eq_some_iff.mp H
          obtain ⟨t248, A130, H⟩ := H
          (try dsimp only at H)
          have A13 := Aside0.mk A130
          clear A130
          by_cases c14 : t248 = true
          ·
           subst c14
           rw [if_pos rfl] at H
           by_cases c15 : x3_1 > 0
           ·
            rw [if_pos c15] at H
            have c15b0 : decide (0 < x3_1) = true := decide_eq_true c15
            clear c15
            obtain ⟨ji16, hji16⟩ : ∃ j_ : Int, (wrap64 (x3_1 - 1)) = j_ := ⟨_, rfl⟩
            replace H : (if 0 ≤ (ji16) then (if (ji16) < (l0.length : Int) then ((spec_l06Before.f ((rd_T73 l0 (ji16)).f1.f0) ((rd_T73 l0 (ji16)).f1.f1) ((rd_T73 l0 x3_1).f1.f0) ((rd_T73 l0 x3_1).f1.f1)).bind fun t250 => (if t250 = true then (spec_l06Cells.l0 k1 l0 (wrap64 (x3_1 + 1))) else (some false))) else (none)) else (none)) = some r := by first | (rw [hji16] at H; exact H) | (simp only [hji16] at H ⊢; exact H)
            (try rw [hji16] at A4)
            (try rw [hji16] at A6)
            (try rw [hji16] at A8)
            (try rw [hji16] at A10)
            (try rw [hji16] at A13)
            have hji16w : (IntKind.i64.wrap (x3_1 - 1)) = ji16 := (i64_w _).trans hji16
            by_cases c17 : 0 ≤ (ji16)
            ·
             rw [if_pos c17] at H
             have c17b0 : decide (0 ≤ (ji16)) = true := decide_eq_true c17
             clear c17
             by_cases c18 : (ji16) < (l0.length : Int)
             ·
              rw [if_pos c18] at H
              have c18b0 : decide ((ji16) < (l0.length : Int)) = true := decide_eq_true c18
              clear c18
              replace H := Option.bind_eq_some_iff.mp H
              obtain ⟨t250, A190, H⟩ := H
              (try dsimp only at H)
              have A19 := Aside0.mk A190
              clear A190
              by_cases c20 : t250 = true
              ·
               subst c20
               rw [if_pos rfl] at H
               have H' := Aside0.mk H
               clear H
               have p242 : 0 ≤ (x3_1 : Int) := of_decide_eq_true z9_6
               have q242 : x3_1 < (l0.length : Int) := of_decide_eq_true z9_6
               obtain ⟨ad242, e242, hx242_0, hx242_1, hx242_2, hx242_3, hx242_4, hx242_5, hx242_6, hx242_7⟩ := at_T73 HR0.out x3_1 p242 q242
               cases e242
               replace hx242_0 := cb_ HB hx242_0
               replace hx242_1 := cb_ HB hx242_1
               replace hx242_2 := cb_ HB hx242_2
               replace hx242_3 := cb_ HB hx242_3
               replace hx242_4 := cb_ HB hx242_4
               replace hx242_5 := cb_ HB hx242_5
               replace hx242_6 := cb_ HB hx242_6
               replace hx242_7 := cb_ HB hx242_7
               replace p242 := eq_true p242
               replace q242 := eq_true q242
               try go_wp2_with (first | ((with_reducible refine gate_dst (N := 4) rfl ?_); refine box_event ?hg (N := 4) ?hd (cs := #[.string (⟨#[]⟩ : ByteArray), .int .i64 0, .int .i64 0, .int .i64 0, .int .i64 0, .int .i64 0, .int .i64 0, .bool false]) (t := 73) ?hr ?_; (case hd => rfl); (case hg => rfl); (case hr => first | (go_simp; done) | (go_simp; rfl)); intro gb243 hg w21 hbox hb; have BK243 := Aside0.mk (hbox); have GW243 := gw_ w z9_3 hg; have GE243 := gw_ w z9_3 hg; replace HB := Aside0.mk (below_step z9_3 hb); clear hb hbox hg; obtain ⟨hcz22_0, hcz22_1, hcz22_2, hcz22_3, hcz22_4, hcz22_5, hcz22_6, hcz22_7, hfz22_0, hfz22_1, hfz22_2, hfz22_3, hfz22_4, hfz22_5, hfz22_6, hfz22_7⟩ := bc8 BK243.out))
               have n0_ : Aside0 (((((((((w21.setCell ⟨gb243, 0, none⟩ (.string ((rd_T73 l0 x3_1).f0))).setCell ⟨gb243, 1, none⟩ (.int .i64 ((rd_T73 l0 x3_1).f1.f0))).setCell ⟨gb243, 2, none⟩ (.int .i64 ((rd_T73 l0 x3_1).f1.f1))).setCell ⟨gb243, 3, none⟩ (.int .i64 ((rd_T73 l0 x3_1).f2))).setCell ⟨gb243, 4, none⟩ (.int .i64 ((rd_T73 l0 x3_1).f3.f0))).setCell ⟨gb243, 5, none⟩ (.int .i64 ((rd_T73 l0 x3_1).f3.f1))).setCell ⟨gb243, 6, none⟩ (.int .i64 ((rd_T73 l0 x3_1).f4))).setCell ⟨gb243, 7, none⟩ (.bool ((rd_T73 l0 x3_1).f5))).heap[gb243]? = some (.cells #[.string ((rd_T73 l0 x3_1).f0), .int .i64 ((rd_T73 l0 x3_1).f1.f0), .int .i64 ((rd_T73 l0 x3_1).f1.f1), .int .i64 ((rd_T73 l0 x3_1).f2), .int .i64 ((rd_T73 l0 x3_1).f3.f0), .int .i64 ((rd_T73 l0 x3_1).f3.f1), .int .i64 ((rd_T73 l0 x3_1).f4), .bool ((rd_T73 l0 x3_1).f5)] 73 (0, 0))) := ⟨z9_0⟩
               have n1_ : Aside0 (Below w.heap.size w ((((((((w21.setCell ⟨gb243, 0, none⟩ (.string ((rd_T73 l0 x3_1).f0))).setCell ⟨gb243, 1, none⟩ (.int .i64 ((rd_T73 l0 x3_1).f1.f0))).setCell ⟨gb243, 2, none⟩ (.int .i64 ((rd_T73 l0 x3_1).f1.f1))).setCell ⟨gb243, 3, none⟩ (.int .i64 ((rd_T73 l0 x3_1).f2))).setCell ⟨gb243, 4, none⟩ (.int .i64 ((rd_T73 l0 x3_1).f3.f0))).setCell ⟨gb243, 5, none⟩ (.int .i64 ((rd_T73 l0 x3_1).f3.f1))).setCell ⟨gb243, 6, none⟩ (.int .i64 ((rd_T73 l0 x3_1).f4))).setCell ⟨gb243, 7, none⟩ (.bool ((rd_T73 l0 x3_1).f5)))) := ⟨z9_1⟩
               (try clear BK243)
               (try clear HB)
               generalize ((((((((w21.setCell ⟨gb243, 0, none⟩ (.string ((rd_T73 l0 x3_1).f0))).setCell ⟨gb243, 1, none⟩ (.int .i64 ((rd_T73 l0 x3_1).f1.f0))).setCell ⟨gb243, 2, none⟩ (.int .i64 ((rd_T73 l0 x3_1).f1.f1))).setCell ⟨gb243, 3, none⟩ (.int .i64 ((rd_T73 l0 x3_1).f2))).setCell ⟨gb243, 4, none⟩ (.int .i64 ((rd_T73 l0 x3_1).f3.f0))).setCell ⟨gb243, 5, none⟩ (.int .i64 ((rd_T73 l0 x3_1).f3.f1))).setCell ⟨gb243, 6, none⟩ (.int .i64 ((rd_T73 l0 x3_1).f4))).setCell ⟨gb243, 7, none⟩ (.bool ((rd_T73 l0 x3_1).f5))) = w23 at n0_ n1_ ⊢
               have BK243 := n0_
               have HB := n1_
               clear n0_ n1_
               replace BK243 := Aside0.mk (blk_drew BK243.out)
               replace HB := Aside0.mk (below_drew1 HB.out)
               have p249 : 0 ≤ ((ji16) : Int) := of_decide_eq_true z9_6
               have q249 : (ji16) < (l0.length : Int) := of_decide_eq_true z9_6
               obtain ⟨ad249, e249, hx249_0, hx249_1, hx249_2, hx249_3, hx249_4, hx249_5, hx249_6, hx249_7⟩ := at_T73 HR0.out (ji16) p249 q249
               have hw249_7 := hx249_7
               have hw249_6 := hx249_6
               have hw249_5 := hx249_5
               have hw249_4 := hx249_4
               have hw249_3 := hx249_3
               have hw249_2 := hx249_2
               have hw249_1 := hx249_1
               have hw249_0 := hx249_0
               obtain rfl : ad242 = ad249 := (by injection e249)
               replace hx249_0 := cb_ HB hx249_0
               replace hx249_1 := cb_ HB hx249_1
               replace hx249_2 := cb_ HB hx249_2
               replace hx249_3 := cb_ HB hx249_3
               replace hx249_4 := cb_ HB hx249_4
               replace hx249_5 := cb_ HB hx249_5
               replace hx249_6 := cb_ HB hx249_6
               replace hx249_7 := cb_ HB hx249_7
               replace p249 := eq_true p249
               replace q249 := eq_true q249
               refine start_ (n := 50) (S := fun w' => w'.cell? ⟨gb243, 0, none⟩ = some (.string ((rd_T73 l0 x3_1).f0)) ∧ w'.cell? ⟨gb243, 1, none⟩ = some (.int .i64 ((rd_T73 l0 x3_1).f1.f0)) ∧ w'.cell? ⟨gb243, 2, none⟩ = some (.int .i64 ((rd_T73 l0 x3_1).f1.f1)) ∧ w'.cell? ⟨gb243, 3, none⟩ = some (.int .i64 ((rd_T73 l0 x3_1).f2)) ∧ w'.cell? ⟨gb243, 4, none⟩ = some (.int .i64 ((rd_T73 l0 x3_1).f3.f0)) ∧ w'.cell? ⟨gb243, 5, none⟩ = some (.int .i64 ((rd_T73 l0 x3_1).f3.f1)) ∧ w'.cell? ⟨gb243, 6, none⟩ = some (.int .i64 ((rd_T73 l0 x3_1).f4)) ∧ w'.cell? ⟨gb243, 7, none⟩ = some (.bool ((rd_T73 l0 x3_1).f5)) ∧ w'.cell? (ad242.add (((ji16)).toNat * 8)) = some (.string ((rd_T73 l0 (ji16)).f0)) ∧ w'.cell? ⟨(ad242.add (((ji16)).toNat * 8)).block, (ad242.add (((ji16)).toNat * 8)).off + 1, none⟩ = some (.int .i64 ((rd_T73 l0 (ji16)).f1.f0)) ∧ w'.cell? ⟨(ad242.add (((ji16)).toNat * 8)).block, (ad242.add (((ji16)).toNat * 8)).off + 2, none⟩ = some (.int .i64 ((rd_T73 l0 (ji16)).f1.f1)) ∧ w'.cell? ⟨(ad242.add (((ji16)).toNat * 8)).block, (ad242.add (((ji16)).toNat * 8)).off + 3, none⟩ = some (.int .i64 ((rd_T73 l0 (ji16)).f2)) ∧ w'.cell? ⟨(ad242.add (((ji16)).toNat * 8)).block, (ad242.add (((ji16)).toNat * 8)).off + 4, none⟩ = some (.int .i64 ((rd_T73 l0 (ji16)).f3.f0)) ∧ w'.cell? ⟨(ad242.add (((ji16)).toNat * 8)).block, (ad242.add (((ji16)).toNat * 8)).off + 5, none⟩ = some (.int .i64 ((rd_T73 l0 (ji16)).f3.f1)) ∧ w'.cell? ⟨(ad242.add (((ji16)).toNat * 8)).block, (ad242.add (((ji16)).toNat * 8)).off + 6, none⟩ = some (.int .i64 ((rd_T73 l0 (ji16)).f4)) ∧ w'.cell? ⟨(ad242.add (((ji16)).toNat * 8)).block, (ad242.add (((ji16)).toNat * 8)).off + 7, none⟩ = some (.bool ((rd_T73 l0 (ji16)).f5))) (ds := []) mk9_0 z9_2 rfl rfl ⟨bc_ BK243 0, bc_ BK243 1, bc_ BK243 2, bc_ BK243 3, bc_ BK243 4, bc_ BK243 5, bc_ BK243 6, bc_ BK243 7, (cb_ HB hw249_0), (cb_ HB hw249_1), (cb_ HB hw249_2), (cb_ HB hw249_3), (cb_ HB hw249_4), (cb_ HB hw249_5), (cb_ HB hw249_6), (cb_ HB hw249_7)⟩ (fun hHeld => ?_); refine with_tabW spec_l06Cells.tab5 spec_l06Cells.bits5 (fun HT_ HW_ => ?_)
               generalize w23.drew = w24 at BK243 HB hx249_0 hx249_1 hx249_2 hx249_3 hx249_4 hx249_5 hx249_6 hx249_7 hHeld ⊢
               refine p_ (i := 0) (N := some 15) mk9_1 ?_
               refine t_ (i := 1) (N := some 16) mk9_2 hHeld ?_ (hv := by rintro w' ⟨s0, s1, s2, s3, s4, s5, s6, s7, s8, s9, s10, s11, s12, s13, s14, s15⟩; go_simp; with_reducible rfl)
               refine o_ (i := 2) (N := some 17) mk9_3 (fun K hK => ?_)
               refine goes_ Try.func104 z9_2 rfl #[.agg #[.int .i64 ((rd_T73 l0 x3_1).f1.f0), .int .i64 ((rd_T73 l0 x3_1).f1.f1)]] (by rfl) rfl rfl z9_4 ?_
               with_reducible refine (spec_DotOk.calls ((rd_T73 l0 x3_1).f1.f0) ((rd_T73 l0 x3_1).f1.f1) true _ A4.out).mono ?_
               rintro e w25 ⟨rfl, hb⟩
               refine ⟨_, rfl, ?_⟩
               replace BK243 := Aside0.mk (blk_below (g := gb243) (o := .cells #[.string ((rd_T73 l0 x3_1).f0), .int .i64 ((rd_T73 l0 x3_1).f1.f0), .int .i64 ((rd_T73 l0 x3_1).f1.f1), .int .i64 ((rd_T73 l0 x3_1).f2), .int .i64 ((rd_T73 l0 x3_1).f3.f0), .int .i64 ((rd_T73 l0 x3_1).f3.f1), .int .i64 ((rd_T73 l0 x3_1).f4), .bool ((rd_T73 l0 x3_1).f5)] 73 (0, 0)) z9_5 hb)
               replace HB := Aside0.mk (below_step z9_1 hb)
               (try clear hb)
               (try clear hb2)
               (try clear hk)
               (try clear hi)
               refine hK.out _ _ ⟨bc_ BK243 0, bc_ BK243 1, bc_ BK243 2, bc_ BK243 3, bc_ BK243 4, bc_ BK243 5, bc_ BK243 6, bc_ BK243 7, (cb_ HB hw249_0), (cb_ HB hw249_1), (cb_ HB hw249_2), (cb_ HB hw249_3), (cb_ HB hw249_4), (cb_ HB hw249_5), (cb_ HB hw249_6), (cb_ HB hw249_7)⟩ (fun hHeld => ?_)
               clear hK K
               refine n_ ?_
               refine p_ (i := 3) (N := some 18) mk9_4 ?_
               refine p_ (i := 4) (N := some 19) mk9_5 ?_
               refine p_ (i := 5) (N := some 20) mk9_6 ?_
               refine t_ (i := 6) (N := some 21) mk9_7 hHeld ?_ (hv := by rintro w' ⟨s0, s1, s2, s3, s4, s5, s6, s7, s8, s9, s10, s11, s12, s13, s14, s15⟩; go_simp; with_reducible rfl)
               refine o_ (i := 7) (N := some 22) mk9_8 (fun K hK => ?_)
               refine goes_ Try.func103 z9_2 rfl #[.string ((rd_T73 l0 x3_1).f0)] (by rfl) rfl rfl z9_4 ?_
               with_reducible refine (spec_NameOk.calls k1 ((rd_T73 l0 x3_1).f0) true _ A6.out).mono ?_
               rintro e w' ⟨rfl, ⟨nd, rfl⟩⟩
               refine ⟨_, rfl, ?_⟩
               refine hK.out _ _ ⟨bc_ BK243 0, bc_ BK243 1, bc_ BK243 2, bc_ BK243 3, bc_ BK243 4, bc_ BK243 5, bc_ BK243 6, bc_ BK243 7, (cb_ HB hw249_0), (cb_ HB hw249_1), (cb_ HB hw249_2), (cb_ HB hw249_3), (cb_ HB hw249_4), (cb_ HB hw249_5), (cb_ HB hw249_6), (cb_ HB hw249_7)⟩ (fun hHeld => ?_)
               clear hK K
               refine n_ ?_
               refine p_ (i := 8) (N := some 23) mk9_9 ?_
               refine p_ (i := 9) (N := some 24) mk9_10 ?_
               refine p_ (i := 10) (N := some 25) mk9_11 ?_
               refine p_ (i := 11) (N := some 26) mk9_12 ?_
               refine t_ (i := 12) (N := some 27) mk9_13 hHeld ?_ (hv := by rintro w' ⟨s0, s1, s2, s3, s4, s5, s6, s7, s8, s9, s10, s11, s12, s13, s14, s15⟩; go_simp; with_reducible rfl)
               refine o_ (i := 13) (N := some 28) mk9_14 (fun K hK => ?_)
               refine goes_ Try.func102 z9_2 rfl #[.int .i64 ((rd_T73 l0 x3_1).f2), .int .i64 1, .int .i64 10000] (by rfl) rfl rfl z9_4 ?_
               with_reducible refine (spec_l01In.calls ((rd_T73 l0 x3_1).f2) 1 10000 true _ A8.out).mono ?_
               rintro e w' ⟨rfl, ⟨nd, rfl⟩⟩
               refine ⟨_, rfl, ?_⟩
               refine hK.out _ _ ⟨bc_ BK243 0, bc_ BK243 1, bc_ BK243 2, bc_ BK243 3, bc_ BK243 4, bc_ BK243 5, bc_ BK243 6, bc_ BK243 7, (cb_ HB hw249_0), (cb_ HB hw249_1), (cb_ HB hw249_2), (cb_ HB hw249_3), (cb_ HB hw249_4), (cb_ HB hw249_5), (cb_ HB hw249_6), (cb_ HB hw249_7)⟩ (fun hHeld => ?_)
               clear hK K
               refine n_ ?_
               refine p_ (i := 14) (N := some 29) mk9_15 ?_
               refine p_ (i := 15) (N := some 30) mk9_16 ?_
               refine p_ (i := 16) (N := some 31) mk9_17 ?_
               refine p_ (i := 17) (N := some 32) mk9_18 ?_
               refine t_ (i := 18) (N := some 33) mk9_19 hHeld ?_ (hv := by rintro w' ⟨s0, s1, s2, s3, s4, s5, s6, s7, s8, s9, s10, s11, s12, s13, s14, s15⟩; go_simp; with_reducible rfl)
               refine o_ (i := 19) (N := some 34) mk9_20 (fun K hK => ?_)
               refine goes_ Try.func102 z9_2 rfl #[.int .i64 ((rd_T73 l0 x3_1).f4), .int .i64 0, .int .i64 999999] (by rfl) rfl rfl z9_4 ?_
               with_reducible refine (spec_l01In.calls ((rd_T73 l0 x3_1).f4) 0 999999 true _ A10.out).mono ?_
               rintro e w' ⟨rfl, ⟨nd, rfl⟩⟩
               refine ⟨_, rfl, ?_⟩
               refine hK.out _ _ ⟨bc_ BK243 0, bc_ BK243 1, bc_ BK243 2, bc_ BK243 3, bc_ BK243 4, bc_ BK243 5, bc_ BK243 6, bc_ BK243 7, (cb_ HB hw249_0), (cb_ HB hw249_1), (cb_ HB hw249_2), (cb_ HB hw249_3), (cb_ HB hw249_4), (cb_ HB hw249_5), (cb_ HB hw249_6), (cb_ HB hw249_7)⟩ (fun hHeld => ?_)
               clear hK K
               refine n_ ?_
               refine p_ (i := 20) (N := some 35) mk9_21 ?_
               refine p_ (i := 21) (N := some 36) mk9_22 ?_
               refine p_ (i := 22) (N := some 37) mk9_23 ?_
               refine p_ (i := 23) (N := some 38) mk9_24 ?_
               refine p_ (i := 25) (N := some 40) mk9_25 ?_
               refine t_ (i := 24) (N := some 39) mk9_26 hHeld ?_ (hv := by rintro w' ⟨s0, s1, s2, s3, s4, s5, s6, s7, s8, s9, s10, s11, s12, s13, s14, s15⟩; go_simp; with_reducible rfl)
               refine p_ (i := 26) (N := some 41) mk9_27 ?_
               refine p_ (i := 27) (N := some 42) mk9_28 ?_
               refine p_ (i := 28) (N := some 43) mk9_29 ?_
               refine t_ (i := 29) (N := some 44) mk9_30 hHeld ?_ (hv := by rintro w' ⟨s0, s1, s2, s3, s4, s5, s6, s7, s8, s9, s10, s11, s12, s13, s14, s15⟩; go_simp; with_reducible rfl)
               refine o_ (i := 30) (N := some 45) mk9_31 (fun K hK => ?_)
               refine goes_ Try.func104 z9_2 rfl #[.agg #[.int .i64 ((rd_T73 l0 x3_1).f3.f0), .int .i64 ((rd_T73 l0 x3_1).f3.f1)]] (by rfl) rfl rfl z9_4 ?_
               with_reducible refine (spec_DotOk.calls ((rd_T73 l0 x3_1).f3.f0) ((rd_T73 l0 x3_1).f3.f1) true _ A13.out).mono ?_
               rintro e w26 ⟨rfl, hb⟩
               refine ⟨_, rfl, ?_⟩
               replace BK243 := Aside0.mk (blk_below (g := gb243) (o := .cells #[.string ((rd_T73 l0 x3_1).f0), .int .i64 ((rd_T73 l0 x3_1).f1.f0), .int .i64 ((rd_T73 l0 x3_1).f1.f1), .int .i64 ((rd_T73 l0 x3_1).f2), .int .i64 ((rd_T73 l0 x3_1).f3.f0), .int .i64 ((rd_T73 l0 x3_1).f3.f1), .int .i64 ((rd_T73 l0 x3_1).f4), .bool ((rd_T73 l0 x3_1).f5)] 73 (0, 0)) z9_5 hb)
               replace HB := Aside0.mk (below_step z9_1 hb)
               (try clear hb)
               (try clear hb2)
               (try clear hk)
               (try clear hi)
               refine hK.out _ _ ⟨bc_ BK243 0, bc_ BK243 1, bc_ BK243 2, bc_ BK243 3, bc_ BK243 4, bc_ BK243 5, bc_ BK243 6, bc_ BK243 7, (cb_ HB hw249_0), (cb_ HB hw249_1), (cb_ HB hw249_2), (cb_ HB hw249_3), (cb_ HB hw249_4), (cb_ HB hw249_5), (cb_ HB hw249_6), (cb_ HB hw249_7)⟩ (fun hHeld => ?_)
               clear hK K
               refine n_ ?_
               refine p_ (i := 31) (N := some 46) mk9_32 ?_
               refine p_ (i := 32) (N := some 47) mk9_33 ?_
               refine p_ (i := 33) (N := some 48) mk9_34 ?_
               refine p_ (i := 34) (N := some 49) mk9_35 ?_
               refine p_ (i := 35) (N := some 50) mk9_36 ?_
               refine p_ (i := 36) (N := some 51) mk9_37 ?_
               refine p_ (i := 37) (N := some 52) mk9_38 ?_
               refine p_ (i := 38) (N := some 53) mk9_39 ?_
               refine p_ (i := 39) (N := some 54) mk9_40 ?_
               refine p_ (i := 40) (N := some 55) mk9_41 ?_
               refine p_ (i := 41) (N := some 56) mk9_42 ?_
               refine p_ (i := 42) (N := some 57) mk9_43 ?_
               refine p_ (i := 44) (N := some 59) mk9_44 ?_
               refine t_ (i := 43) (N := some 58) mk9_45 hHeld ?_ (hv := by rintro w' ⟨s0, s1, s2, s3, s4, s5, s6, s7, s8, s9, s10, s11, s12, s13, s14, s15⟩; go_simp; with_reducible rfl)
               refine t_ (i := 45) (N := some 60) mk9_46 hHeld ?_ (hv := by rintro w' ⟨s0, s1, s2, s3, s4, s5, s6, s7, s8, s9, s10, s11, s12, s13, s14, s15⟩; go_simp; with_reducible rfl)
               refine o_ (i := 46) (N := some 61) mk9_47 (fun K hK => ?_)
               refine goes_ Try.func105 z9_2 rfl #[.agg #[.int .i64 ((rd_T73 l0 (ji16)).f1.f0), .int .i64 ((rd_T73 l0 (ji16)).f1.f1)], .agg #[.int .i64 ((rd_T73 l0 x3_1).f1.f0), .int .i64 ((rd_T73 l0 x3_1).f1.f1)]] (by rfl) rfl rfl z9_10 ?_
               with_reducible refine (spec_l06Before.calls ((rd_T73 l0 (ji16)).f1.f0) ((rd_T73 l0 (ji16)).f1.f1) ((rd_T73 l0 x3_1).f1.f0) ((rd_T73 l0 x3_1).f1.f1) true _ A19.out).mono ?_
               rintro e w27 ⟨rfl, hb⟩
               refine ⟨_, rfl, ?_⟩
               replace BK243 := Aside0.mk (blk_below (g := gb243) (o := .cells #[.string ((rd_T73 l0 x3_1).f0), .int .i64 ((rd_T73 l0 x3_1).f1.f0), .int .i64 ((rd_T73 l0 x3_1).f1.f1), .int .i64 ((rd_T73 l0 x3_1).f2), .int .i64 ((rd_T73 l0 x3_1).f3.f0), .int .i64 ((rd_T73 l0 x3_1).f3.f1), .int .i64 ((rd_T73 l0 x3_1).f4), .bool ((rd_T73 l0 x3_1).f5)] 73 (0, 0)) z9_5 hb)
               replace HB := Aside0.mk (below_step z9_1 hb)
               (try clear hb)
               (try clear hb2)
               (try clear hk)
               (try clear hi)
               refine hK.out _ _ ⟨bc_ BK243 0, bc_ BK243 1, bc_ BK243 2, bc_ BK243 3, bc_ BK243 4, bc_ BK243 5, bc_ BK243 6, bc_ BK243 7, (cb_ HB hw249_0), (cb_ HB hw249_1), (cb_ HB hw249_2), (cb_ HB hw249_3), (cb_ HB hw249_4), (cb_ HB hw249_5), (cb_ HB hw249_6), (cb_ HB hw249_7)⟩ (fun hHeld => ?_)
               clear hK K
               refine n_ ?_
               refine p_ (i := 47) (N := some 62) mk9_48 ?_
               refine p_ (i := 48) (N := some 63) mk9_49 ?_
               refine p_ (i := 49) (N := some 64) mk9_50 ?_
               refine done_ (done_of HT_.out z9_2) ?_
               try go_wp2
               go_roundg k1
               case measure => have := HK1.out; omega
               case rel => exact ⟨(wrap64 (x3_1 + 1)), z9_8, H', ⟨by have := HK1.out; omega⟩, ⟨z9_1⟩⟩
              ·
               replace c20 := Bool.eq_false_iff.mpr c20
               subst c20
               rw [if_neg (show ¬ (false = true) by decide)] at H
               obtain rfl := Option.some.inj H
               have p242 : 0 ≤ (x3_1 : Int) := of_decide_eq_true z9_6
               have q242 : x3_1 < (l0.length : Int) := of_decide_eq_true z9_6
               obtain ⟨ad242, e242, hx242_0, hx242_1, hx242_2, hx242_3, hx242_4, hx242_5, hx242_6, hx242_7⟩ := at_T73 HR0.out x3_1 p242 q242
               cases e242
               replace hx242_0 := cb_ HB hx242_0
               replace hx242_1 := cb_ HB hx242_1
               replace hx242_2 := cb_ HB hx242_2
               replace hx242_3 := cb_ HB hx242_3
               replace hx242_4 := cb_ HB hx242_4
               replace hx242_5 := cb_ HB hx242_5
               replace hx242_6 := cb_ HB hx242_6
               replace hx242_7 := cb_ HB hx242_7
               replace p242 := eq_true p242
               replace q242 := eq_true q242
               try go_wp2_with (first | ((with_reducible refine gate_dst (N := 4) rfl ?_); refine box_event ?hg (N := 4) ?hd (cs := #[.string (⟨#[]⟩ : ByteArray), .int .i64 0, .int .i64 0, .int .i64 0, .int .i64 0, .int .i64 0, .int .i64 0, .bool false]) (t := 73) ?hr ?_; (case hd => rfl); (case hg => rfl); (case hr => first | (go_simp; done) | (go_simp; rfl)); intro gb243 hg w28 hbox hb; have BK243 := Aside0.mk (hbox); have GW243 := gw_ w z9_3 hg; have GE243 := gw_ w z9_3 hg; replace HB := Aside0.mk (below_step z9_3 hb); clear hb hbox hg; obtain ⟨hcz29_0, hcz29_1, hcz29_2, hcz29_3, hcz29_4, hcz29_5, hcz29_6, hcz29_7, hfz29_0, hfz29_1, hfz29_2, hfz29_3, hfz29_4, hfz29_5, hfz29_6, hfz29_7⟩ := bc8 BK243.out))
               have n0_ : Aside0 (((((((((w28.setCell ⟨gb243, 0, none⟩ (.string ((rd_T73 l0 x3_1).f0))).setCell ⟨gb243, 1, none⟩ (.int .i64 ((rd_T73 l0 x3_1).f1.f0))).setCell ⟨gb243, 2, none⟩ (.int .i64 ((rd_T73 l0 x3_1).f1.f1))).setCell ⟨gb243, 3, none⟩ (.int .i64 ((rd_T73 l0 x3_1).f2))).setCell ⟨gb243, 4, none⟩ (.int .i64 ((rd_T73 l0 x3_1).f3.f0))).setCell ⟨gb243, 5, none⟩ (.int .i64 ((rd_T73 l0 x3_1).f3.f1))).setCell ⟨gb243, 6, none⟩ (.int .i64 ((rd_T73 l0 x3_1).f4))).setCell ⟨gb243, 7, none⟩ (.bool ((rd_T73 l0 x3_1).f5))).heap[gb243]? = some (.cells #[.string ((rd_T73 l0 x3_1).f0), .int .i64 ((rd_T73 l0 x3_1).f1.f0), .int .i64 ((rd_T73 l0 x3_1).f1.f1), .int .i64 ((rd_T73 l0 x3_1).f2), .int .i64 ((rd_T73 l0 x3_1).f3.f0), .int .i64 ((rd_T73 l0 x3_1).f3.f1), .int .i64 ((rd_T73 l0 x3_1).f4), .bool ((rd_T73 l0 x3_1).f5)] 73 (0, 0))) := ⟨z9_0⟩
               have n1_ : Aside0 (Below w.heap.size w ((((((((w28.setCell ⟨gb243, 0, none⟩ (.string ((rd_T73 l0 x3_1).f0))).setCell ⟨gb243, 1, none⟩ (.int .i64 ((rd_T73 l0 x3_1).f1.f0))).setCell ⟨gb243, 2, none⟩ (.int .i64 ((rd_T73 l0 x3_1).f1.f1))).setCell ⟨gb243, 3, none⟩ (.int .i64 ((rd_T73 l0 x3_1).f2))).setCell ⟨gb243, 4, none⟩ (.int .i64 ((rd_T73 l0 x3_1).f3.f0))).setCell ⟨gb243, 5, none⟩ (.int .i64 ((rd_T73 l0 x3_1).f3.f1))).setCell ⟨gb243, 6, none⟩ (.int .i64 ((rd_T73 l0 x3_1).f4))).setCell ⟨gb243, 7, none⟩ (.bool ((rd_T73 l0 x3_1).f5)))) := ⟨z9_1⟩
               (try clear BK243)
               (try clear HB)
               generalize ((((((((w28.setCell ⟨gb243, 0, none⟩ (.string ((rd_T73 l0 x3_1).f0))).setCell ⟨gb243, 1, none⟩ (.int .i64 ((rd_T73 l0 x3_1).f1.f0))).setCell ⟨gb243, 2, none⟩ (.int .i64 ((rd_T73 l0 x3_1).f1.f1))).setCell ⟨gb243, 3, none⟩ (.int .i64 ((rd_T73 l0 x3_1).f2))).setCell ⟨gb243, 4, none⟩ (.int .i64 ((rd_T73 l0 x3_1).f3.f0))).setCell ⟨gb243, 5, none⟩ (.int .i64 ((rd_T73 l0 x3_1).f3.f1))).setCell ⟨gb243, 6, none⟩ (.int .i64 ((rd_T73 l0 x3_1).f4))).setCell ⟨gb243, 7, none⟩ (.bool ((rd_T73 l0 x3_1).f5))) = w30 at n0_ n1_ ⊢
               have BK243 := n0_
               have HB := n1_
               clear n0_ n1_
               replace BK243 := Aside0.mk (blk_drew BK243.out)
               replace HB := Aside0.mk (below_drew1 HB.out)
               have p249 : 0 ≤ ((ji16) : Int) := of_decide_eq_true z9_6
               have q249 : (ji16) < (l0.length : Int) := of_decide_eq_true z9_6
               obtain ⟨ad249, e249, hx249_0, hx249_1, hx249_2, hx249_3, hx249_4, hx249_5, hx249_6, hx249_7⟩ := at_T73 HR0.out (ji16) p249 q249
               have hw249_7 := hx249_7
               have hw249_6 := hx249_6
               have hw249_5 := hx249_5
               have hw249_4 := hx249_4
               have hw249_3 := hx249_3
               have hw249_2 := hx249_2
               have hw249_1 := hx249_1
               have hw249_0 := hx249_0
               obtain rfl : ad242 = ad249 := (by injection e249)
               replace hx249_0 := cb_ HB hx249_0
               replace hx249_1 := cb_ HB hx249_1
               replace hx249_2 := cb_ HB hx249_2
               replace hx249_3 := cb_ HB hx249_3
               replace hx249_4 := cb_ HB hx249_4
               replace hx249_5 := cb_ HB hx249_5
               replace hx249_6 := cb_ HB hx249_6
               replace hx249_7 := cb_ HB hx249_7
               replace p249 := eq_true p249
               replace q249 := eq_true q249
               refine start_ (n := 50) (S := fun w' => w'.cell? ⟨gb243, 0, none⟩ = some (.string ((rd_T73 l0 x3_1).f0)) ∧ w'.cell? ⟨gb243, 1, none⟩ = some (.int .i64 ((rd_T73 l0 x3_1).f1.f0)) ∧ w'.cell? ⟨gb243, 2, none⟩ = some (.int .i64 ((rd_T73 l0 x3_1).f1.f1)) ∧ w'.cell? ⟨gb243, 3, none⟩ = some (.int .i64 ((rd_T73 l0 x3_1).f2)) ∧ w'.cell? ⟨gb243, 4, none⟩ = some (.int .i64 ((rd_T73 l0 x3_1).f3.f0)) ∧ w'.cell? ⟨gb243, 5, none⟩ = some (.int .i64 ((rd_T73 l0 x3_1).f3.f1)) ∧ w'.cell? ⟨gb243, 6, none⟩ = some (.int .i64 ((rd_T73 l0 x3_1).f4)) ∧ w'.cell? ⟨gb243, 7, none⟩ = some (.bool ((rd_T73 l0 x3_1).f5)) ∧ w'.cell? (ad242.add (((ji16)).toNat * 8)) = some (.string ((rd_T73 l0 (ji16)).f0)) ∧ w'.cell? ⟨(ad242.add (((ji16)).toNat * 8)).block, (ad242.add (((ji16)).toNat * 8)).off + 1, none⟩ = some (.int .i64 ((rd_T73 l0 (ji16)).f1.f0)) ∧ w'.cell? ⟨(ad242.add (((ji16)).toNat * 8)).block, (ad242.add (((ji16)).toNat * 8)).off + 2, none⟩ = some (.int .i64 ((rd_T73 l0 (ji16)).f1.f1)) ∧ w'.cell? ⟨(ad242.add (((ji16)).toNat * 8)).block, (ad242.add (((ji16)).toNat * 8)).off + 3, none⟩ = some (.int .i64 ((rd_T73 l0 (ji16)).f2)) ∧ w'.cell? ⟨(ad242.add (((ji16)).toNat * 8)).block, (ad242.add (((ji16)).toNat * 8)).off + 4, none⟩ = some (.int .i64 ((rd_T73 l0 (ji16)).f3.f0)) ∧ w'.cell? ⟨(ad242.add (((ji16)).toNat * 8)).block, (ad242.add (((ji16)).toNat * 8)).off + 5, none⟩ = some (.int .i64 ((rd_T73 l0 (ji16)).f3.f1)) ∧ w'.cell? ⟨(ad242.add (((ji16)).toNat * 8)).block, (ad242.add (((ji16)).toNat * 8)).off + 6, none⟩ = some (.int .i64 ((rd_T73 l0 (ji16)).f4)) ∧ w'.cell? ⟨(ad242.add (((ji16)).toNat * 8)).block, (ad242.add (((ji16)).toNat * 8)).off + 7, none⟩ = some (.bool ((rd_T73 l0 (ji16)).f5))) (ds := []) mk9_0 z9_2 rfl rfl ⟨bc_ BK243 0, bc_ BK243 1, bc_ BK243 2, bc_ BK243 3, bc_ BK243 4, bc_ BK243 5, bc_ BK243 6, bc_ BK243 7, (cb_ HB hw249_0), (cb_ HB hw249_1), (cb_ HB hw249_2), (cb_ HB hw249_3), (cb_ HB hw249_4), (cb_ HB hw249_5), (cb_ HB hw249_6), (cb_ HB hw249_7)⟩ (fun hHeld => ?_); refine with_tabW spec_l06Cells.tab5 spec_l06Cells.bits5 (fun HT_ HW_ => ?_)
               generalize w30.drew = w31 at BK243 HB hx249_0 hx249_1 hx249_2 hx249_3 hx249_4 hx249_5 hx249_6 hx249_7 hHeld ⊢
               refine p_ (i := 0) (N := some 15) mk9_1 ?_
               refine t_ (i := 1) (N := some 16) mk9_2 hHeld ?_ (hv := by rintro w' ⟨s0, s1, s2, s3, s4, s5, s6, s7, s8, s9, s10, s11, s12, s13, s14, s15⟩; go_simp; with_reducible rfl)
               refine o_ (i := 2) (N := some 17) mk9_3 (fun K hK => ?_)
               refine goes_ Try.func104 z9_2 rfl #[.agg #[.int .i64 ((rd_T73 l0 x3_1).f1.f0), .int .i64 ((rd_T73 l0 x3_1).f1.f1)]] (by rfl) rfl rfl z9_4 ?_
               with_reducible refine (spec_DotOk.calls ((rd_T73 l0 x3_1).f1.f0) ((rd_T73 l0 x3_1).f1.f1) true _ A4.out).mono ?_
               rintro e w32 ⟨rfl, hb⟩
               refine ⟨_, rfl, ?_⟩
               replace BK243 := Aside0.mk (blk_below (g := gb243) (o := .cells #[.string ((rd_T73 l0 x3_1).f0), .int .i64 ((rd_T73 l0 x3_1).f1.f0), .int .i64 ((rd_T73 l0 x3_1).f1.f1), .int .i64 ((rd_T73 l0 x3_1).f2), .int .i64 ((rd_T73 l0 x3_1).f3.f0), .int .i64 ((rd_T73 l0 x3_1).f3.f1), .int .i64 ((rd_T73 l0 x3_1).f4), .bool ((rd_T73 l0 x3_1).f5)] 73 (0, 0)) z9_5 hb)
               replace HB := Aside0.mk (below_step z9_1 hb)
               (try clear hb)
               (try clear hb2)
               (try clear hk)
               (try clear hi)
               refine hK.out _ _ ⟨bc_ BK243 0, bc_ BK243 1, bc_ BK243 2, bc_ BK243 3, bc_ BK243 4, bc_ BK243 5, bc_ BK243 6, bc_ BK243 7, (cb_ HB hw249_0), (cb_ HB hw249_1), (cb_ HB hw249_2), (cb_ HB hw249_3), (cb_ HB hw249_4), (cb_ HB hw249_5), (cb_ HB hw249_6), (cb_ HB hw249_7)⟩ (fun hHeld => ?_)
               clear hK K
               refine n_ ?_
               refine p_ (i := 3) (N := some 18) mk9_4 ?_
               refine p_ (i := 4) (N := some 19) mk9_5 ?_
               refine p_ (i := 5) (N := some 20) mk9_6 ?_
               refine t_ (i := 6) (N := some 21) mk9_7 hHeld ?_ (hv := by rintro w' ⟨s0, s1, s2, s3, s4, s5, s6, s7, s8, s9, s10, s11, s12, s13, s14, s15⟩; go_simp; with_reducible rfl)
               refine o_ (i := 7) (N := some 22) mk9_8 (fun K hK => ?_)
               refine goes_ Try.func103 z9_2 rfl #[.string ((rd_T73 l0 x3_1).f0)] (by rfl) rfl rfl z9_4 ?_
               with_reducible refine (spec_NameOk.calls k1 ((rd_T73 l0 x3_1).f0) true _ A6.out).mono ?_
               rintro e w' ⟨rfl, ⟨nd, rfl⟩⟩
               refine ⟨_, rfl, ?_⟩
               refine hK.out _ _ ⟨bc_ BK243 0, bc_ BK243 1, bc_ BK243 2, bc_ BK243 3, bc_ BK243 4, bc_ BK243 5, bc_ BK243 6, bc_ BK243 7, (cb_ HB hw249_0), (cb_ HB hw249_1), (cb_ HB hw249_2), (cb_ HB hw249_3), (cb_ HB hw249_4), (cb_ HB hw249_5), (cb_ HB hw249_6), (cb_ HB hw249_7)⟩ (fun hHeld => ?_)
               clear hK K
               refine n_ ?_
               refine p_ (i := 8) (N := some 23) mk9_9 ?_
               refine p_ (i := 9) (N := some 24) mk9_10 ?_
               refine p_ (i := 10) (N := some 25) mk9_11 ?_
               refine p_ (i := 11) (N := some 26) mk9_12 ?_
               refine t_ (i := 12) (N := some 27) mk9_13 hHeld ?_ (hv := by rintro w' ⟨s0, s1, s2, s3, s4, s5, s6, s7, s8, s9, s10, s11, s12, s13, s14, s15⟩; go_simp; with_reducible rfl)
               refine o_ (i := 13) (N := some 28) mk9_14 (fun K hK => ?_)
               refine goes_ Try.func102 z9_2 rfl #[.int .i64 ((rd_T73 l0 x3_1).f2), .int .i64 1, .int .i64 10000] (by rfl) rfl rfl z9_4 ?_
               with_reducible refine (spec_l01In.calls ((rd_T73 l0 x3_1).f2) 1 10000 true _ A8.out).mono ?_
               rintro e w' ⟨rfl, ⟨nd, rfl⟩⟩
               refine ⟨_, rfl, ?_⟩
               refine hK.out _ _ ⟨bc_ BK243 0, bc_ BK243 1, bc_ BK243 2, bc_ BK243 3, bc_ BK243 4, bc_ BK243 5, bc_ BK243 6, bc_ BK243 7, (cb_ HB hw249_0), (cb_ HB hw249_1), (cb_ HB hw249_2), (cb_ HB hw249_3), (cb_ HB hw249_4), (cb_ HB hw249_5), (cb_ HB hw249_6), (cb_ HB hw249_7)⟩ (fun hHeld => ?_)
               clear hK K
               refine n_ ?_
               refine p_ (i := 14) (N := some 29) mk9_15 ?_
               refine p_ (i := 15) (N := some 30) mk9_16 ?_
               refine p_ (i := 16) (N := some 31) mk9_17 ?_
               refine p_ (i := 17) (N := some 32) mk9_18 ?_
               refine t_ (i := 18) (N := some 33) mk9_19 hHeld ?_ (hv := by rintro w' ⟨s0, s1, s2, s3, s4, s5, s6, s7, s8, s9, s10, s11, s12, s13, s14, s15⟩; go_simp; with_reducible rfl)
               refine o_ (i := 19) (N := some 34) mk9_20 (fun K hK => ?_)
               refine goes_ Try.func102 z9_2 rfl #[.int .i64 ((rd_T73 l0 x3_1).f4), .int .i64 0, .int .i64 999999] (by rfl) rfl rfl z9_4 ?_
               with_reducible refine (spec_l01In.calls ((rd_T73 l0 x3_1).f4) 0 999999 true _ A10.out).mono ?_
               rintro e w' ⟨rfl, ⟨nd, rfl⟩⟩
               refine ⟨_, rfl, ?_⟩
               refine hK.out _ _ ⟨bc_ BK243 0, bc_ BK243 1, bc_ BK243 2, bc_ BK243 3, bc_ BK243 4, bc_ BK243 5, bc_ BK243 6, bc_ BK243 7, (cb_ HB hw249_0), (cb_ HB hw249_1), (cb_ HB hw249_2), (cb_ HB hw249_3), (cb_ HB hw249_4), (cb_ HB hw249_5), (cb_ HB hw249_6), (cb_ HB hw249_7)⟩ (fun hHeld => ?_)
               clear hK K
               refine n_ ?_
               refine p_ (i := 20) (N := some 35) mk9_21 ?_
               refine p_ (i := 21) (N := some 36) mk9_22 ?_
               refine p_ (i := 22) (N := some 37) mk9_23 ?_
               refine p_ (i := 23) (N := some 38) mk9_24 ?_
               refine p_ (i := 25) (N := some 40) mk9_25 ?_
               refine t_ (i := 24) (N := some 39) mk9_26 hHeld ?_ (hv := by rintro w' ⟨s0, s1, s2, s3, s4, s5, s6, s7, s8, s9, s10, s11, s12, s13, s14, s15⟩; go_simp; with_reducible rfl)
               refine p_ (i := 26) (N := some 41) mk9_27 ?_
               refine p_ (i := 27) (N := some 42) mk9_28 ?_
               refine p_ (i := 28) (N := some 43) mk9_29 ?_
               refine t_ (i := 29) (N := some 44) mk9_30 hHeld ?_ (hv := by rintro w' ⟨s0, s1, s2, s3, s4, s5, s6, s7, s8, s9, s10, s11, s12, s13, s14, s15⟩; go_simp; with_reducible rfl)
               refine o_ (i := 30) (N := some 45) mk9_31 (fun K hK => ?_)
               refine goes_ Try.func104 z9_2 rfl #[.agg #[.int .i64 ((rd_T73 l0 x3_1).f3.f0), .int .i64 ((rd_T73 l0 x3_1).f3.f1)]] (by rfl) rfl rfl z9_4 ?_
               with_reducible refine (spec_DotOk.calls ((rd_T73 l0 x3_1).f3.f0) ((rd_T73 l0 x3_1).f3.f1) true _ A13.out).mono ?_
               rintro e w33 ⟨rfl, hb⟩
               refine ⟨_, rfl, ?_⟩
               replace BK243 := Aside0.mk (blk_below (g := gb243) (o := .cells #[.string ((rd_T73 l0 x3_1).f0), .int .i64 ((rd_T73 l0 x3_1).f1.f0), .int .i64 ((rd_T73 l0 x3_1).f1.f1), .int .i64 ((rd_T73 l0 x3_1).f2), .int .i64 ((rd_T73 l0 x3_1).f3.f0), .int .i64 ((rd_T73 l0 x3_1).f3.f1), .int .i64 ((rd_T73 l0 x3_1).f4), .bool ((rd_T73 l0 x3_1).f5)] 73 (0, 0)) z9_5 hb)
               replace HB := Aside0.mk (below_step z9_1 hb)
               (try clear hb)
               (try clear hb2)
               (try clear hk)
               (try clear hi)
               refine hK.out _ _ ⟨bc_ BK243 0, bc_ BK243 1, bc_ BK243 2, bc_ BK243 3, bc_ BK243 4, bc_ BK243 5, bc_ BK243 6, bc_ BK243 7, (cb_ HB hw249_0), (cb_ HB hw249_1), (cb_ HB hw249_2), (cb_ HB hw249_3), (cb_ HB hw249_4), (cb_ HB hw249_5), (cb_ HB hw249_6), (cb_ HB hw249_7)⟩ (fun hHeld => ?_)
               clear hK K
               refine n_ ?_
               refine p_ (i := 31) (N := some 46) mk9_32 ?_
               refine p_ (i := 32) (N := some 47) mk9_33 ?_
               refine p_ (i := 33) (N := some 48) mk9_34 ?_
               refine p_ (i := 34) (N := some 49) mk9_35 ?_
               refine p_ (i := 35) (N := some 50) mk9_36 ?_
               refine p_ (i := 36) (N := some 51) mk9_37 ?_
               refine p_ (i := 37) (N := some 52) mk9_38 ?_
               refine p_ (i := 38) (N := some 53) mk9_39 ?_
               refine p_ (i := 39) (N := some 54) mk9_40 ?_
               refine p_ (i := 40) (N := some 55) mk9_41 ?_
               refine p_ (i := 41) (N := some 56) mk9_42 ?_
               refine p_ (i := 42) (N := some 57) mk9_43 ?_
               refine p_ (i := 44) (N := some 59) mk9_44 ?_
               refine t_ (i := 43) (N := some 58) mk9_45 hHeld ?_ (hv := by rintro w' ⟨s0, s1, s2, s3, s4, s5, s6, s7, s8, s9, s10, s11, s12, s13, s14, s15⟩; go_simp; with_reducible rfl)
               refine t_ (i := 45) (N := some 60) mk9_46 hHeld ?_ (hv := by rintro w' ⟨s0, s1, s2, s3, s4, s5, s6, s7, s8, s9, s10, s11, s12, s13, s14, s15⟩; go_simp; with_reducible rfl)
               refine o_ (i := 46) (N := some 61) mk9_47 (fun K hK => ?_)
               refine goes_ Try.func105 z9_2 rfl #[.agg #[.int .i64 ((rd_T73 l0 (ji16)).f1.f0), .int .i64 ((rd_T73 l0 (ji16)).f1.f1)], .agg #[.int .i64 ((rd_T73 l0 x3_1).f1.f0), .int .i64 ((rd_T73 l0 x3_1).f1.f1)]] (by rfl) rfl rfl z9_10 ?_
               with_reducible refine (spec_l06Before.calls ((rd_T73 l0 (ji16)).f1.f0) ((rd_T73 l0 (ji16)).f1.f1) ((rd_T73 l0 x3_1).f1.f0) ((rd_T73 l0 x3_1).f1.f1) false _ A19.out).mono ?_
               rintro e w34 ⟨rfl, hb⟩
               refine ⟨_, rfl, ?_⟩
               replace BK243 := Aside0.mk (blk_below (g := gb243) (o := .cells #[.string ((rd_T73 l0 x3_1).f0), .int .i64 ((rd_T73 l0 x3_1).f1.f0), .int .i64 ((rd_T73 l0 x3_1).f1.f1), .int .i64 ((rd_T73 l0 x3_1).f2), .int .i64 ((rd_T73 l0 x3_1).f3.f0), .int .i64 ((rd_T73 l0 x3_1).f3.f1), .int .i64 ((rd_T73 l0 x3_1).f4), .bool ((rd_T73 l0 x3_1).f5)] 73 (0, 0)) z9_5 hb)
               replace HB := Aside0.mk (below_step z9_1 hb)
               (try clear hb)
               (try clear hb2)
               (try clear hk)
               (try clear hi)
               refine hK.out _ _ ⟨bc_ BK243 0, bc_ BK243 1, bc_ BK243 2, bc_ BK243 3, bc_ BK243 4, bc_ BK243 5, bc_ BK243 6, bc_ BK243 7, (cb_ HB hw249_0), (cb_ HB hw249_1), (cb_ HB hw249_2), (cb_ HB hw249_3), (cb_ HB hw249_4), (cb_ HB hw249_5), (cb_ HB hw249_6), (cb_ HB hw249_7)⟩ (fun hHeld => ?_)
               clear hK K
               refine n_ ?_
               refine p_ (i := 47) (N := some 62) mk9_48 ?_
               refine p_ (i := 48) (N := some 63) mk9_49 ?_
               refine p_ (i := 49) (N := some 64) mk9_50 ?_
               refine done_ (done_of HT_.out z9_2) ?_
               try go_wp2
               go_ret
               exact ⟨by first | rfl | (simp [errW_none, errW_some] <;> rfl) | (simp only [← hji16]; first | rfl | (simp [errW_none, errW_some] <;> rfl)) | (simp [*, errW_none, errW_some] <;> rfl), z9_1⟩
             ·
              rw [if_neg c18] at H
              exact absurd H (by simp)
            ·
             rw [if_neg c17] at H
             exact absurd H (by simp)
           ·
            rw [if_neg c15] at H
            have c15b0 : decide (0 < x3_1) = false := decide_eq_false c15
            clear c15
            have H' := Aside0.mk H
            clear H
            have p242 : 0 ≤ (x3_1 : Int) := of_decide_eq_true z9_6
            have q242 : x3_1 < (l0.length : Int) := of_decide_eq_true z9_6
            obtain ⟨ad242, e242, hx242_0, hx242_1, hx242_2, hx242_3, hx242_4, hx242_5, hx242_6, hx242_7⟩ := at_T73 HR0.out x3_1 p242 q242
            cases e242
            replace hx242_0 := cb_ HB hx242_0
            replace hx242_1 := cb_ HB hx242_1
            replace hx242_2 := cb_ HB hx242_2
            replace hx242_3 := cb_ HB hx242_3
            replace hx242_4 := cb_ HB hx242_4
            replace hx242_5 := cb_ HB hx242_5
            replace hx242_6 := cb_ HB hx242_6
            replace hx242_7 := cb_ HB hx242_7
            replace p242 := eq_true p242
            replace q242 := eq_true q242
            try go_wp2_with (first | ((with_reducible refine gate_dst (N := 4) rfl ?_); refine box_event ?hg (N := 4) ?hd (cs := #[.string (⟨#[]⟩ : ByteArray), .int .i64 0, .int .i64 0, .int .i64 0, .int .i64 0, .int .i64 0, .int .i64 0, .bool false]) (t := 73) ?hr ?_; (case hd => rfl); (case hg => rfl); (case hr => first | (go_simp; done) | (go_simp; rfl)); intro gb243 hg w35 hbox hb; have BK243 := Aside0.mk (hbox); have GW243 := gw_ w z9_3 hg; have GE243 := gw_ w z9_3 hg; replace HB := Aside0.mk (below_step z9_3 hb); clear hb hbox hg; obtain ⟨hcz36_0, hcz36_1, hcz36_2, hcz36_3, hcz36_4, hcz36_5, hcz36_6, hcz36_7, hfz36_0, hfz36_1, hfz36_2, hfz36_3, hfz36_4, hfz36_5, hfz36_6, hfz36_7⟩ := bc8 BK243.out))
            have n0_ : Aside0 (((((((((w35.setCell ⟨gb243, 0, none⟩ (.string ((rd_T73 l0 x3_1).f0))).setCell ⟨gb243, 1, none⟩ (.int .i64 ((rd_T73 l0 x3_1).f1.f0))).setCell ⟨gb243, 2, none⟩ (.int .i64 ((rd_T73 l0 x3_1).f1.f1))).setCell ⟨gb243, 3, none⟩ (.int .i64 ((rd_T73 l0 x3_1).f2))).setCell ⟨gb243, 4, none⟩ (.int .i64 ((rd_T73 l0 x3_1).f3.f0))).setCell ⟨gb243, 5, none⟩ (.int .i64 ((rd_T73 l0 x3_1).f3.f1))).setCell ⟨gb243, 6, none⟩ (.int .i64 ((rd_T73 l0 x3_1).f4))).setCell ⟨gb243, 7, none⟩ (.bool ((rd_T73 l0 x3_1).f5))).heap[gb243]? = some (.cells #[.string ((rd_T73 l0 x3_1).f0), .int .i64 ((rd_T73 l0 x3_1).f1.f0), .int .i64 ((rd_T73 l0 x3_1).f1.f1), .int .i64 ((rd_T73 l0 x3_1).f2), .int .i64 ((rd_T73 l0 x3_1).f3.f0), .int .i64 ((rd_T73 l0 x3_1).f3.f1), .int .i64 ((rd_T73 l0 x3_1).f4), .bool ((rd_T73 l0 x3_1).f5)] 73 (0, 0))) := ⟨z9_0⟩
            have n1_ : Aside0 (Below w.heap.size w ((((((((w35.setCell ⟨gb243, 0, none⟩ (.string ((rd_T73 l0 x3_1).f0))).setCell ⟨gb243, 1, none⟩ (.int .i64 ((rd_T73 l0 x3_1).f1.f0))).setCell ⟨gb243, 2, none⟩ (.int .i64 ((rd_T73 l0 x3_1).f1.f1))).setCell ⟨gb243, 3, none⟩ (.int .i64 ((rd_T73 l0 x3_1).f2))).setCell ⟨gb243, 4, none⟩ (.int .i64 ((rd_T73 l0 x3_1).f3.f0))).setCell ⟨gb243, 5, none⟩ (.int .i64 ((rd_T73 l0 x3_1).f3.f1))).setCell ⟨gb243, 6, none⟩ (.int .i64 ((rd_T73 l0 x3_1).f4))).setCell ⟨gb243, 7, none⟩ (.bool ((rd_T73 l0 x3_1).f5)))) := ⟨z9_1⟩
            (try clear BK243)
            (try clear HB)
            generalize ((((((((w35.setCell ⟨gb243, 0, none⟩ (.string ((rd_T73 l0 x3_1).f0))).setCell ⟨gb243, 1, none⟩ (.int .i64 ((rd_T73 l0 x3_1).f1.f0))).setCell ⟨gb243, 2, none⟩ (.int .i64 ((rd_T73 l0 x3_1).f1.f1))).setCell ⟨gb243, 3, none⟩ (.int .i64 ((rd_T73 l0 x3_1).f2))).setCell ⟨gb243, 4, none⟩ (.int .i64 ((rd_T73 l0 x3_1).f3.f0))).setCell ⟨gb243, 5, none⟩ (.int .i64 ((rd_T73 l0 x3_1).f3.f1))).setCell ⟨gb243, 6, none⟩ (.int .i64 ((rd_T73 l0 x3_1).f4))).setCell ⟨gb243, 7, none⟩ (.bool ((rd_T73 l0 x3_1).f5))) = w37 at n0_ n1_ ⊢
            have BK243 := n0_
            have HB := n1_
            clear n0_ n1_
            replace BK243 := Aside0.mk (blk_drew BK243.out)
            replace HB := Aside0.mk (below_drew1 HB.out)
            refine start_ (n := 50) (S := fun w' => w'.cell? ⟨gb243, 0, none⟩ = some (.string ((rd_T73 l0 x3_1).f0)) ∧ w'.cell? ⟨gb243, 1, none⟩ = some (.int .i64 ((rd_T73 l0 x3_1).f1.f0)) ∧ w'.cell? ⟨gb243, 2, none⟩ = some (.int .i64 ((rd_T73 l0 x3_1).f1.f1)) ∧ w'.cell? ⟨gb243, 3, none⟩ = some (.int .i64 ((rd_T73 l0 x3_1).f2)) ∧ w'.cell? ⟨gb243, 4, none⟩ = some (.int .i64 ((rd_T73 l0 x3_1).f3.f0)) ∧ w'.cell? ⟨gb243, 5, none⟩ = some (.int .i64 ((rd_T73 l0 x3_1).f3.f1)) ∧ w'.cell? ⟨gb243, 6, none⟩ = some (.int .i64 ((rd_T73 l0 x3_1).f4)) ∧ w'.cell? ⟨gb243, 7, none⟩ = some (.bool ((rd_T73 l0 x3_1).f5))) (ds := []) mk9_0 z9_2 rfl rfl ⟨bc_ BK243 0, bc_ BK243 1, bc_ BK243 2, bc_ BK243 3, bc_ BK243 4, bc_ BK243 5, bc_ BK243 6, bc_ BK243 7⟩ (fun hHeld => ?_); refine with_tabW spec_l06Cells.tab5 spec_l06Cells.bits5 (fun HT_ HW_ => ?_)
            generalize w37.drew = w38 at BK243 HB hHeld ⊢
            refine p_ (i := 0) (N := some 15) mk9_1 ?_
            refine t_ (i := 1) (N := some 16) mk9_2 hHeld ?_ (hv := by rintro w' ⟨s0, s1, s2, s3, s4, s5, s6, s7⟩; go_simp; with_reducible rfl)
            refine o_ (i := 2) (N := some 17) mk9_3 (fun K hK => ?_)
            refine goes_ Try.func104 z9_2 rfl #[.agg #[.int .i64 ((rd_T73 l0 x3_1).f1.f0), .int .i64 ((rd_T73 l0 x3_1).f1.f1)]] (by rfl) rfl rfl z9_4 ?_
            with_reducible refine (spec_DotOk.calls ((rd_T73 l0 x3_1).f1.f0) ((rd_T73 l0 x3_1).f1.f1) true _ A4.out).mono ?_
            rintro e w39 ⟨rfl, hb⟩
            refine ⟨_, rfl, ?_⟩
            replace BK243 := Aside0.mk (blk_below (g := gb243) (o := .cells #[.string ((rd_T73 l0 x3_1).f0), .int .i64 ((rd_T73 l0 x3_1).f1.f0), .int .i64 ((rd_T73 l0 x3_1).f1.f1), .int .i64 ((rd_T73 l0 x3_1).f2), .int .i64 ((rd_T73 l0 x3_1).f3.f0), .int .i64 ((rd_T73 l0 x3_1).f3.f1), .int .i64 ((rd_T73 l0 x3_1).f4), .bool ((rd_T73 l0 x3_1).f5)] 73 (0, 0)) z9_5 hb)
            replace HB := Aside0.mk (below_step z9_1 hb)
            (try clear hb)
            (try clear hb2)
            (try clear hk)
            (try clear hi)
            refine hK.out _ _ ⟨bc_ BK243 0, bc_ BK243 1, bc_ BK243 2, bc_ BK243 3, bc_ BK243 4, bc_ BK243 5, bc_ BK243 6, bc_ BK243 7⟩ (fun hHeld => ?_)
            clear hK K
            refine n_ ?_
            refine p_ (i := 3) (N := some 18) mk9_4 ?_
            refine p_ (i := 4) (N := some 19) mk9_5 ?_
            refine p_ (i := 5) (N := some 20) mk9_6 ?_
            refine t_ (i := 6) (N := some 21) mk9_7 hHeld ?_ (hv := by rintro w' ⟨s0, s1, s2, s3, s4, s5, s6, s7⟩; go_simp; with_reducible rfl)
            refine o_ (i := 7) (N := some 22) mk9_8 (fun K hK => ?_)
            refine goes_ Try.func103 z9_2 rfl #[.string ((rd_T73 l0 x3_1).f0)] (by rfl) rfl rfl z9_4 ?_
            with_reducible refine (spec_NameOk.calls k1 ((rd_T73 l0 x3_1).f0) true _ A6.out).mono ?_
            rintro e w' ⟨rfl, ⟨nd, rfl⟩⟩
            refine ⟨_, rfl, ?_⟩
            refine hK.out _ _ ⟨bc_ BK243 0, bc_ BK243 1, bc_ BK243 2, bc_ BK243 3, bc_ BK243 4, bc_ BK243 5, bc_ BK243 6, bc_ BK243 7⟩ (fun hHeld => ?_)
            clear hK K
            refine n_ ?_
            refine p_ (i := 8) (N := some 23) mk9_9 ?_
            refine p_ (i := 9) (N := some 24) mk9_10 ?_
            refine p_ (i := 10) (N := some 25) mk9_11 ?_
            refine p_ (i := 11) (N := some 26) mk9_12 ?_
            refine t_ (i := 12) (N := some 27) mk9_13 hHeld ?_ (hv := by rintro w' ⟨s0, s1, s2, s3, s4, s5, s6, s7⟩; go_simp; with_reducible rfl)
            refine o_ (i := 13) (N := some 28) mk9_14 (fun K hK => ?_)
            refine goes_ Try.func102 z9_2 rfl #[.int .i64 ((rd_T73 l0 x3_1).f2), .int .i64 1, .int .i64 10000] (by rfl) rfl rfl z9_4 ?_
            with_reducible refine (spec_l01In.calls ((rd_T73 l0 x3_1).f2) 1 10000 true _ A8.out).mono ?_
            rintro e w' ⟨rfl, ⟨nd, rfl⟩⟩
            refine ⟨_, rfl, ?_⟩
            refine hK.out _ _ ⟨bc_ BK243 0, bc_ BK243 1, bc_ BK243 2, bc_ BK243 3, bc_ BK243 4, bc_ BK243 5, bc_ BK243 6, bc_ BK243 7⟩ (fun hHeld => ?_)
            clear hK K
            refine n_ ?_
            refine p_ (i := 14) (N := some 29) mk9_15 ?_
            refine p_ (i := 15) (N := some 30) mk9_16 ?_
            refine p_ (i := 16) (N := some 31) mk9_17 ?_
            refine p_ (i := 17) (N := some 32) mk9_18 ?_
            refine t_ (i := 18) (N := some 33) mk9_19 hHeld ?_ (hv := by rintro w' ⟨s0, s1, s2, s3, s4, s5, s6, s7⟩; go_simp; with_reducible rfl)
            refine o_ (i := 19) (N := some 34) mk9_20 (fun K hK => ?_)
            refine goes_ Try.func102 z9_2 rfl #[.int .i64 ((rd_T73 l0 x3_1).f4), .int .i64 0, .int .i64 999999] (by rfl) rfl rfl z9_4 ?_
            with_reducible refine (spec_l01In.calls ((rd_T73 l0 x3_1).f4) 0 999999 true _ A10.out).mono ?_
            rintro e w' ⟨rfl, ⟨nd, rfl⟩⟩
            refine ⟨_, rfl, ?_⟩
            refine hK.out _ _ ⟨bc_ BK243 0, bc_ BK243 1, bc_ BK243 2, bc_ BK243 3, bc_ BK243 4, bc_ BK243 5, bc_ BK243 6, bc_ BK243 7⟩ (fun hHeld => ?_)
            clear hK K
            refine n_ ?_
            refine p_ (i := 20) (N := some 35) mk9_21 ?_
            refine p_ (i := 21) (N := some 36) mk9_22 ?_
            refine p_ (i := 22) (N := some 37) mk9_23 ?_
            refine p_ (i := 23) (N := some 38) mk9_24 ?_
            refine p_ (i := 25) (N := some 40) mk9_25 ?_
            refine t_ (i := 24) (N := some 39) mk9_26 hHeld ?_ (hv := by rintro w' ⟨s0, s1, s2, s3, s4, s5, s6, s7⟩; go_simp; with_reducible rfl)
            refine p_ (i := 26) (N := some 41) mk9_27 ?_
            refine p_ (i := 27) (N := some 42) mk9_28 ?_
            refine p_ (i := 28) (N := some 43) mk9_29 ?_
            refine t_ (i := 29) (N := some 44) mk9_30 hHeld ?_ (hv := by rintro w' ⟨s0, s1, s2, s3, s4, s5, s6, s7⟩; go_simp; with_reducible rfl)
            refine o_ (i := 30) (N := some 45) mk9_31 (fun K hK => ?_)
            refine goes_ Try.func104 z9_2 rfl #[.agg #[.int .i64 ((rd_T73 l0 x3_1).f3.f0), .int .i64 ((rd_T73 l0 x3_1).f3.f1)]] (by rfl) rfl rfl z9_4 ?_
            with_reducible refine (spec_DotOk.calls ((rd_T73 l0 x3_1).f3.f0) ((rd_T73 l0 x3_1).f3.f1) true _ A13.out).mono ?_
            rintro e w40 ⟨rfl, hb⟩
            refine ⟨_, rfl, ?_⟩
            replace BK243 := Aside0.mk (blk_below (g := gb243) (o := .cells #[.string ((rd_T73 l0 x3_1).f0), .int .i64 ((rd_T73 l0 x3_1).f1.f0), .int .i64 ((rd_T73 l0 x3_1).f1.f1), .int .i64 ((rd_T73 l0 x3_1).f2), .int .i64 ((rd_T73 l0 x3_1).f3.f0), .int .i64 ((rd_T73 l0 x3_1).f3.f1), .int .i64 ((rd_T73 l0 x3_1).f4), .bool ((rd_T73 l0 x3_1).f5)] 73 (0, 0)) z9_5 hb)
            replace HB := Aside0.mk (below_step z9_1 hb)
            (try clear hb)
            (try clear hb2)
            (try clear hk)
            (try clear hi)
            refine hK.out _ _ ⟨bc_ BK243 0, bc_ BK243 1, bc_ BK243 2, bc_ BK243 3, bc_ BK243 4, bc_ BK243 5, bc_ BK243 6, bc_ BK243 7⟩ (fun hHeld => ?_)
            clear hK K
            refine n_ ?_
            refine p_ (i := 31) (N := some 46) mk9_32 ?_
            refine p_ (i := 32) (N := some 47) mk9_33 ?_
            refine p_ (i := 33) (N := some 48) mk9_34 ?_
            refine p_ (i := 34) (N := some 49) mk9_35 ?_
            refine p_ (i := 35) (N := some 50) mk9_36 ?_
            refine p_ (i := 36) (N := some 51) mk9_37 ?_
            refine p_ (i := 37) (N := some 52) mk9_38 ?_
            refine u_ (i := 38) (N := some 53) mk9_39 ?_
            refine u_ (i := 39) (N := some 54) mk9_40 ?_
            refine u_ (i := 40) (N := some 55) mk9_41 ?_
            refine u_ (i := 41) (N := some 56) mk9_42 ?_
            refine u_ (i := 42) (N := some 57) mk9_43 ?_
            refine u_ (i := 43) (N := some 58) mk9_51 ?_
            refine u_ (i := 44) (N := some 59) mk9_45 ?_
            refine u_ (i := 45) (N := some 60) mk9_46 ?_
            refine u_ (i := 46) (N := some 61) mk9_47 ?_
            refine u_ (i := 47) (N := some 62) mk9_48 ?_
            refine p_ (i := 48) (N := some 63) mk9_49 ?_
            refine p_ (i := 49) (N := some 64) mk9_50 ?_
            refine done_ (done_of HT_.out z9_2) ?_
            try go_wp2
            go_roundg k1
            case measure => have := HK1.out; omega
            case rel => exact ⟨(wrap64 (x3_1 + 1)), z9_8, H', ⟨by have := HK1.out; omega⟩, ⟨z9_1⟩⟩
          ·
           replace c14 := Bool.eq_false_iff.mpr c14
           subst c14
           rw [if_neg (show ¬ (false = true) by decide)] at H
           obtain rfl := Option.some.inj H
           have p242 : 0 ≤ (x3_1 : Int) := of_decide_eq_true z9_6
           have q242 : x3_1 < (l0.length : Int) := of_decide_eq_true z9_6
           obtain ⟨ad242, e242, hx242_0, hx242_1, hx242_2, hx242_3, hx242_4, hx242_5, hx242_6, hx242_7⟩ := at_T73 HR0.out x3_1 p242 q242
           cases e242
           replace hx242_0 := cb_ HB hx242_0
           replace hx242_1 := cb_ HB hx242_1
           replace hx242_2 := cb_ HB hx242_2
           replace hx242_3 := cb_ HB hx242_3
           replace hx242_4 := cb_ HB hx242_4
           replace hx242_5 := cb_ HB hx242_5
           replace hx242_6 := cb_ HB hx242_6
           replace hx242_7 := cb_ HB hx242_7
           replace p242 := eq_true p242
           replace q242 := eq_true q242
           try go_wp2_with (first | ((with_reducible refine gate_dst (N := 4) rfl ?_); refine box_event ?hg (N := 4) ?hd (cs := #[.string (⟨#[]⟩ : ByteArray), .int .i64 0, .int .i64 0, .int .i64 0, .int .i64 0, .int .i64 0, .int .i64 0, .bool false]) (t := 73) ?hr ?_; (case hd => rfl); (case hg => rfl); (case hr => first | (go_simp; done) | (go_simp; rfl)); intro gb243 hg w41 hbox hb; have BK243 := Aside0.mk (hbox); have GW243 := gw_ w z9_3 hg; have GE243 := gw_ w z9_3 hg; replace HB := Aside0.mk (below_step z9_3 hb); clear hb hbox hg; obtain ⟨hcz42_0, hcz42_1, hcz42_2, hcz42_3, hcz42_4, hcz42_5, hcz42_6, hcz42_7, hfz42_0, hfz42_1, hfz42_2, hfz42_3, hfz42_4, hfz42_5, hfz42_6, hfz42_7⟩ := bc8 BK243.out))
           have n0_ : Aside0 (((((((((w41.setCell ⟨gb243, 0, none⟩ (.string ((rd_T73 l0 x3_1).f0))).setCell ⟨gb243, 1, none⟩ (.int .i64 ((rd_T73 l0 x3_1).f1.f0))).setCell ⟨gb243, 2, none⟩ (.int .i64 ((rd_T73 l0 x3_1).f1.f1))).setCell ⟨gb243, 3, none⟩ (.int .i64 ((rd_T73 l0 x3_1).f2))).setCell ⟨gb243, 4, none⟩ (.int .i64 ((rd_T73 l0 x3_1).f3.f0))).setCell ⟨gb243, 5, none⟩ (.int .i64 ((rd_T73 l0 x3_1).f3.f1))).setCell ⟨gb243, 6, none⟩ (.int .i64 ((rd_T73 l0 x3_1).f4))).setCell ⟨gb243, 7, none⟩ (.bool ((rd_T73 l0 x3_1).f5))).heap[gb243]? = some (.cells #[.string ((rd_T73 l0 x3_1).f0), .int .i64 ((rd_T73 l0 x3_1).f1.f0), .int .i64 ((rd_T73 l0 x3_1).f1.f1), .int .i64 ((rd_T73 l0 x3_1).f2), .int .i64 ((rd_T73 l0 x3_1).f3.f0), .int .i64 ((rd_T73 l0 x3_1).f3.f1), .int .i64 ((rd_T73 l0 x3_1).f4), .bool ((rd_T73 l0 x3_1).f5)] 73 (0, 0))) := ⟨z9_0⟩
           have n1_ : Aside0 (Below w.heap.size w ((((((((w41.setCell ⟨gb243, 0, none⟩ (.string ((rd_T73 l0 x3_1).f0))).setCell ⟨gb243, 1, none⟩ (.int .i64 ((rd_T73 l0 x3_1).f1.f0))).setCell ⟨gb243, 2, none⟩ (.int .i64 ((rd_T73 l0 x3_1).f1.f1))).setCell ⟨gb243, 3, none⟩ (.int .i64 ((rd_T73 l0 x3_1).f2))).setCell ⟨gb243, 4, none⟩ (.int .i64 ((rd_T73 l0 x3_1).f3.f0))).setCell ⟨gb243, 5, none⟩ (.int .i64 ((rd_T73 l0 x3_1).f3.f1))).setCell ⟨gb243, 6, none⟩ (.int .i64 ((rd_T73 l0 x3_1).f4))).setCell ⟨gb243, 7, none⟩ (.bool ((rd_T73 l0 x3_1).f5)))) := ⟨z9_1⟩
           (try clear BK243)
           (try clear HB)
           generalize ((((((((w41.setCell ⟨gb243, 0, none⟩ (.string ((rd_T73 l0 x3_1).f0))).setCell ⟨gb243, 1, none⟩ (.int .i64 ((rd_T73 l0 x3_1).f1.f0))).setCell ⟨gb243, 2, none⟩ (.int .i64 ((rd_T73 l0 x3_1).f1.f1))).setCell ⟨gb243, 3, none⟩ (.int .i64 ((rd_T73 l0 x3_1).f2))).setCell ⟨gb243, 4, none⟩ (.int .i64 ((rd_T73 l0 x3_1).f3.f0))).setCell ⟨gb243, 5, none⟩ (.int .i64 ((rd_T73 l0 x3_1).f3.f1))).setCell ⟨gb243, 6, none⟩ (.int .i64 ((rd_T73 l0 x3_1).f4))).setCell ⟨gb243, 7, none⟩ (.bool ((rd_T73 l0 x3_1).f5))) = w43 at n0_ n1_ ⊢
           have BK243 := n0_
           have HB := n1_
           clear n0_ n1_
           replace BK243 := Aside0.mk (blk_drew BK243.out)
           replace HB := Aside0.mk (below_drew1 HB.out)
           refine start_ (n := 50) (S := fun w' => w'.cell? ⟨gb243, 0, none⟩ = some (.string ((rd_T73 l0 x3_1).f0)) ∧ w'.cell? ⟨gb243, 1, none⟩ = some (.int .i64 ((rd_T73 l0 x3_1).f1.f0)) ∧ w'.cell? ⟨gb243, 2, none⟩ = some (.int .i64 ((rd_T73 l0 x3_1).f1.f1)) ∧ w'.cell? ⟨gb243, 3, none⟩ = some (.int .i64 ((rd_T73 l0 x3_1).f2)) ∧ w'.cell? ⟨gb243, 4, none⟩ = some (.int .i64 ((rd_T73 l0 x3_1).f3.f0)) ∧ w'.cell? ⟨gb243, 5, none⟩ = some (.int .i64 ((rd_T73 l0 x3_1).f3.f1)) ∧ w'.cell? ⟨gb243, 6, none⟩ = some (.int .i64 ((rd_T73 l0 x3_1).f4)) ∧ w'.cell? ⟨gb243, 7, none⟩ = some (.bool ((rd_T73 l0 x3_1).f5))) (ds := []) mk9_0 z9_2 rfl rfl ⟨bc_ BK243 0, bc_ BK243 1, bc_ BK243 2, bc_ BK243 3, bc_ BK243 4, bc_ BK243 5, bc_ BK243 6, bc_ BK243 7⟩ (fun hHeld => ?_); refine with_tabW spec_l06Cells.tab5 spec_l06Cells.bits5 (fun HT_ HW_ => ?_)
           generalize w43.drew = w44 at BK243 HB hHeld ⊢
           refine p_ (i := 0) (N := some 15) mk9_1 ?_
           refine t_ (i := 1) (N := some 16) mk9_2 hHeld ?_ (hv := by rintro w' ⟨s0, s1, s2, s3, s4, s5, s6, s7⟩; go_simp; with_reducible rfl)
           refine o_ (i := 2) (N := some 17) mk9_3 (fun K hK => ?_)
           refine goes_ Try.func104 z9_2 rfl #[.agg #[.int .i64 ((rd_T73 l0 x3_1).f1.f0), .int .i64 ((rd_T73 l0 x3_1).f1.f1)]] (by rfl) rfl rfl z9_4 ?_
           with_reducible refine (spec_DotOk.calls ((rd_T73 l0 x3_1).f1.f0) ((rd_T73 l0 x3_1).f1.f1) true _ A4.out).mono ?_
           rintro e w45 ⟨rfl, hb⟩
           refine ⟨_, rfl, ?_⟩
           replace BK243 := Aside0.mk (blk_below (g := gb243) (o := .cells #[.string ((rd_T73 l0 x3_1).f0), .int .i64 ((rd_T73 l0 x3_1).f1.f0), .int .i64 ((rd_T73 l0 x3_1).f1.f1), .int .i64 ((rd_T73 l0 x3_1).f2), .int .i64 ((rd_T73 l0 x3_1).f3.f0), .int .i64 ((rd_T73 l0 x3_1).f3.f1), .int .i64 ((rd_T73 l0 x3_1).f4), .bool ((rd_T73 l0 x3_1).f5)] 73 (0, 0)) z9_5 hb)
           replace HB := Aside0.mk (below_step z9_1 hb)
           (try clear hb)
           (try clear hb2)
           (try clear hk)
           (try clear hi)
           refine hK.out _ _ ⟨bc_ BK243 0, bc_ BK243 1, bc_ BK243 2, bc_ BK243 3, bc_ BK243 4, bc_ BK243 5, bc_ BK243 6, bc_ BK243 7⟩ (fun hHeld => ?_)
           clear hK K
           refine n_ ?_
           refine p_ (i := 3) (N := some 18) mk9_4 ?_
           refine p_ (i := 4) (N := some 19) mk9_5 ?_
           refine p_ (i := 5) (N := some 20) mk9_6 ?_
           refine t_ (i := 6) (N := some 21) mk9_7 hHeld ?_ (hv := by rintro w' ⟨s0, s1, s2, s3, s4, s5, s6, s7⟩; go_simp; with_reducible rfl)
           refine o_ (i := 7) (N := some 22) mk9_8 (fun K hK => ?_)
           refine goes_ Try.func103 z9_2 rfl #[.string ((rd_T73 l0 x3_1).f0)] (by rfl) rfl rfl z9_4 ?_
           with_reducible refine (spec_NameOk.calls k1 ((rd_T73 l0 x3_1).f0) true _ A6.out).mono ?_
           rintro e w' ⟨rfl, ⟨nd, rfl⟩⟩
           refine ⟨_, rfl, ?_⟩
           refine hK.out _ _ ⟨bc_ BK243 0, bc_ BK243 1, bc_ BK243 2, bc_ BK243 3, bc_ BK243 4, bc_ BK243 5, bc_ BK243 6, bc_ BK243 7⟩ (fun hHeld => ?_)
           clear hK K
           refine n_ ?_
           refine p_ (i := 8) (N := some 23) mk9_9 ?_
           refine p_ (i := 9) (N := some 24) mk9_10 ?_
           refine p_ (i := 10) (N := some 25) mk9_11 ?_
           refine p_ (i := 11) (N := some 26) mk9_12 ?_
           refine t_ (i := 12) (N := some 27) mk9_13 hHeld ?_ (hv := by rintro w' ⟨s0, s1, s2, s3, s4, s5, s6, s7⟩; go_simp; with_reducible rfl)
           refine o_ (i := 13) (N := some 28) mk9_14 (fun K hK => ?_)
           refine goes_ Try.func102 z9_2 rfl #[.int .i64 ((rd_T73 l0 x3_1).f2), .int .i64 1, .int .i64 10000] (by rfl) rfl rfl z9_4 ?_
           with_reducible refine (spec_l01In.calls ((rd_T73 l0 x3_1).f2) 1 10000 true _ A8.out).mono ?_
           rintro e w' ⟨rfl, ⟨nd, rfl⟩⟩
           refine ⟨_, rfl, ?_⟩
           refine hK.out _ _ ⟨bc_ BK243 0, bc_ BK243 1, bc_ BK243 2, bc_ BK243 3, bc_ BK243 4, bc_ BK243 5, bc_ BK243 6, bc_ BK243 7⟩ (fun hHeld => ?_)
           clear hK K
           refine n_ ?_
           refine p_ (i := 14) (N := some 29) mk9_15 ?_
           refine p_ (i := 15) (N := some 30) mk9_16 ?_
           refine p_ (i := 16) (N := some 31) mk9_17 ?_
           refine p_ (i := 17) (N := some 32) mk9_18 ?_
           refine t_ (i := 18) (N := some 33) mk9_19 hHeld ?_ (hv := by rintro w' ⟨s0, s1, s2, s3, s4, s5, s6, s7⟩; go_simp; with_reducible rfl)
           refine o_ (i := 19) (N := some 34) mk9_20 (fun K hK => ?_)
           refine goes_ Try.func102 z9_2 rfl #[.int .i64 ((rd_T73 l0 x3_1).f4), .int .i64 0, .int .i64 999999] (by rfl) rfl rfl z9_4 ?_
           with_reducible refine (spec_l01In.calls ((rd_T73 l0 x3_1).f4) 0 999999 true _ A10.out).mono ?_
           rintro e w' ⟨rfl, ⟨nd, rfl⟩⟩
           refine ⟨_, rfl, ?_⟩
           refine hK.out _ _ ⟨bc_ BK243 0, bc_ BK243 1, bc_ BK243 2, bc_ BK243 3, bc_ BK243 4, bc_ BK243 5, bc_ BK243 6, bc_ BK243 7⟩ (fun hHeld => ?_)
           clear hK K
           refine n_ ?_
           refine p_ (i := 20) (N := some 35) mk9_21 ?_
           refine p_ (i := 21) (N := some 36) mk9_22 ?_
           refine p_ (i := 22) (N := some 37) mk9_23 ?_
           refine p_ (i := 23) (N := some 38) mk9_24 ?_
           refine p_ (i := 25) (N := some 40) mk9_25 ?_
           refine t_ (i := 24) (N := some 39) mk9_26 hHeld ?_ (hv := by rintro w' ⟨s0, s1, s2, s3, s4, s5, s6, s7⟩; go_simp; with_reducible rfl)
           refine p_ (i := 26) (N := some 41) mk9_27 ?_
           refine p_ (i := 27) (N := some 42) mk9_28 ?_
           refine p_ (i := 28) (N := some 43) mk9_29 ?_
           refine t_ (i := 29) (N := some 44) mk9_30 hHeld ?_ (hv := by rintro w' ⟨s0, s1, s2, s3, s4, s5, s6, s7⟩; go_simp; with_reducible rfl)
           refine o_ (i := 30) (N := some 45) mk9_31 (fun K hK => ?_)
           refine goes_ Try.func104 z9_2 rfl #[.agg #[.int .i64 ((rd_T73 l0 x3_1).f3.f0), .int .i64 ((rd_T73 l0 x3_1).f3.f1)]] (by rfl) rfl rfl z9_4 ?_
           with_reducible refine (spec_DotOk.calls ((rd_T73 l0 x3_1).f3.f0) ((rd_T73 l0 x3_1).f3.f1) false _ A13.out).mono ?_
           rintro e w46 ⟨rfl, hb⟩
           refine ⟨_, rfl, ?_⟩
           replace BK243 := Aside0.mk (blk_below (g := gb243) (o := .cells #[.string ((rd_T73 l0 x3_1).f0), .int .i64 ((rd_T73 l0 x3_1).f1.f0), .int .i64 ((rd_T73 l0 x3_1).f1.f1), .int .i64 ((rd_T73 l0 x3_1).f2), .int .i64 ((rd_T73 l0 x3_1).f3.f0), .int .i64 ((rd_T73 l0 x3_1).f3.f1), .int .i64 ((rd_T73 l0 x3_1).f4), .bool ((rd_T73 l0 x3_1).f5)] 73 (0, 0)) z9_5 hb)
           replace HB := Aside0.mk (below_step z9_1 hb)
           (try clear hb)
           (try clear hb2)
           (try clear hk)
           (try clear hi)
           refine hK.out _ _ ⟨bc_ BK243 0, bc_ BK243 1, bc_ BK243 2, bc_ BK243 3, bc_ BK243 4, bc_ BK243 5, bc_ BK243 6, bc_ BK243 7⟩ (fun hHeld => ?_)
           clear hK K
           refine n_ ?_
           refine p_ (i := 31) (N := some 46) mk9_32 ?_
           refine p_ (i := 32) (N := some 47) mk9_33 ?_
           refine p_ (i := 33) (N := some 48) mk9_34 ?_
           refine p_ (i := 34) (N := some 49) mk9_35 ?_
           refine u_ (i := 35) (N := some 50) mk9_36 ?_
           refine u_ (i := 36) (N := some 51) mk9_37 ?_
           refine u_ (i := 37) (N := some 52) mk9_38 ?_
           refine u_ (i := 38) (N := some 53) mk9_39 ?_
           refine u_ (i := 39) (N := some 54) mk9_40 ?_
           refine u_ (i := 40) (N := some 55) mk9_41 ?_
           refine u_ (i := 41) (N := some 56) mk9_42 ?_
           refine u_ (i := 42) (N := some 57) mk9_43 ?_
           refine u_ (i := 43) (N := some 58) mk9_51 ?_
           refine u_ (i := 44) (N := some 59) mk9_45 ?_
           refine u_ (i := 45) (N := some 60) mk9_46 ?_
           refine u_ (i := 46) (N := some 61) mk9_47 ?_
           refine u_ (i := 47) (N := some 62) mk9_48 ?_
           refine u_ (i := 48) (N := some 63) mk9_49 ?_
           refine p_ (i := 49) (N := some 64) mk9_50 ?_
           refine done_ (done_of HT_.out z9_2) ?_
           try go_wp2
           go_ret
           exact ⟨z9_7, z9_1⟩
         ·
          rw [if_neg c12] at H
          have c12b0 : (!(((rd_T73 l0 x3_1).f3.f0) == 0) || (!(((rd_T73 l0 x3_1).f3.f1) == 0))) = false := by simpa using c12
          clear c12
          by_cases c47 : x3_1 > 0
          ·
           rw [if_pos c47] at H
           have c47b0 : decide (0 < x3_1) = true := decide_eq_true c47
           clear c47
           obtain ⟨ji48, hji48⟩ : ∃ j_ : Int, (wrap64 (x3_1 - 1)) = j_ := ⟨_, rfl⟩
           replace H : (if 0 ≤ (ji48) then (if (ji48) < (l0.length : Int) then ((spec_l06Before.f ((rd_T73 l0 (ji48)).f1.f0) ((rd_T73 l0 (ji48)).f1.f1) ((rd_T73 l0 x3_1).f1.f0) ((rd_T73 l0 x3_1).f1.f1)).bind fun t252 => (if t252 = true then (spec_l06Cells.l0 k1 l0 (wrap64 (x3_1 + 1))) else (some false))) else (none)) else (none)) = some r := by first | (rw [hji48] at H; exact H) | (simp only [hji48] at H ⊢; exact H)
           (try rw [hji48] at A4)
           (try rw [hji48] at A6)
           (try rw [hji48] at A8)
           (try rw [hji48] at A10)
           have hji48w : (IntKind.i64.wrap (x3_1 - 1)) = ji48 := (i64_w _).trans hji48
           by_cases c49 : 0 ≤ (ji48)
           ·
            rw [if_pos c49] at H
            have c49b0 : decide (0 ≤ (ji48)) = true := decide_eq_true c49
            clear c49
            by_cases c50 : (ji48) < (l0.length : Int)
            ·
             rw [if_pos c50] at H
             have c50b0 : decide ((ji48) < (l0.length : Int)) = true := decide_eq_true c50
             clear c50
             replace H := Option.bind_eq_some_iff.mp H
             obtain ⟨t252, A510, H⟩ := H
             (try dsimp only at H)
             have A51 := Aside0.mk A510
             clear A510
             by_cases c52 : t252 = true
             ·
              subst c52
              rw [if_pos rfl] at H
              have H' := Aside0.mk H
              clear H
              have p242 : 0 ≤ (x3_1 : Int) := of_decide_eq_true z9_6
              have q242 : x3_1 < (l0.length : Int) := of_decide_eq_true z9_6
              obtain ⟨ad242, e242, hx242_0, hx242_1, hx242_2, hx242_3, hx242_4, hx242_5, hx242_6, hx242_7⟩ := at_T73 HR0.out x3_1 p242 q242
              cases e242
              replace hx242_0 := cb_ HB hx242_0
              replace hx242_1 := cb_ HB hx242_1
              replace hx242_2 := cb_ HB hx242_2
              replace hx242_3 := cb_ HB hx242_3
              replace hx242_4 := cb_ HB hx242_4
              replace hx242_5 := cb_ HB hx242_5
              replace hx242_6 := cb_ HB hx242_6
              replace hx242_7 := cb_ HB hx242_7
              replace p242 := eq_true p242
              replace q242 := eq_true q242
              try go_wp2_with (first | ((with_reducible refine gate_dst (N := 4) rfl ?_); refine box_event ?hg (N := 4) ?hd (cs := #[.string (⟨#[]⟩ : ByteArray), .int .i64 0, .int .i64 0, .int .i64 0, .int .i64 0, .int .i64 0, .int .i64 0, .bool false]) (t := 73) ?hr ?_; (case hd => rfl); (case hg => rfl); (case hr => first | (go_simp; done) | (go_simp; rfl)); intro gb243 hg w53 hbox hb; have BK243 := Aside0.mk (hbox); have GW243 := gw_ w z9_3 hg; have GE243 := gw_ w z9_3 hg; replace HB := Aside0.mk (below_step z9_3 hb); clear hb hbox hg; obtain ⟨hcz54_0, hcz54_1, hcz54_2, hcz54_3, hcz54_4, hcz54_5, hcz54_6, hcz54_7, hfz54_0, hfz54_1, hfz54_2, hfz54_3, hfz54_4, hfz54_5, hfz54_6, hfz54_7⟩ := bc8 BK243.out))
              have n0_ : Aside0 (((((((((w53.setCell ⟨gb243, 0, none⟩ (.string ((rd_T73 l0 x3_1).f0))).setCell ⟨gb243, 1, none⟩ (.int .i64 ((rd_T73 l0 x3_1).f1.f0))).setCell ⟨gb243, 2, none⟩ (.int .i64 ((rd_T73 l0 x3_1).f1.f1))).setCell ⟨gb243, 3, none⟩ (.int .i64 ((rd_T73 l0 x3_1).f2))).setCell ⟨gb243, 4, none⟩ (.int .i64 ((rd_T73 l0 x3_1).f3.f0))).setCell ⟨gb243, 5, none⟩ (.int .i64 ((rd_T73 l0 x3_1).f3.f1))).setCell ⟨gb243, 6, none⟩ (.int .i64 ((rd_T73 l0 x3_1).f4))).setCell ⟨gb243, 7, none⟩ (.bool ((rd_T73 l0 x3_1).f5))).heap[gb243]? = some (.cells #[.string ((rd_T73 l0 x3_1).f0), .int .i64 ((rd_T73 l0 x3_1).f1.f0), .int .i64 ((rd_T73 l0 x3_1).f1.f1), .int .i64 ((rd_T73 l0 x3_1).f2), .int .i64 ((rd_T73 l0 x3_1).f3.f0), .int .i64 ((rd_T73 l0 x3_1).f3.f1), .int .i64 ((rd_T73 l0 x3_1).f4), .bool ((rd_T73 l0 x3_1).f5)] 73 (0, 0))) := ⟨z9_0⟩
              have n1_ : Aside0 (Below w.heap.size w ((((((((w53.setCell ⟨gb243, 0, none⟩ (.string ((rd_T73 l0 x3_1).f0))).setCell ⟨gb243, 1, none⟩ (.int .i64 ((rd_T73 l0 x3_1).f1.f0))).setCell ⟨gb243, 2, none⟩ (.int .i64 ((rd_T73 l0 x3_1).f1.f1))).setCell ⟨gb243, 3, none⟩ (.int .i64 ((rd_T73 l0 x3_1).f2))).setCell ⟨gb243, 4, none⟩ (.int .i64 ((rd_T73 l0 x3_1).f3.f0))).setCell ⟨gb243, 5, none⟩ (.int .i64 ((rd_T73 l0 x3_1).f3.f1))).setCell ⟨gb243, 6, none⟩ (.int .i64 ((rd_T73 l0 x3_1).f4))).setCell ⟨gb243, 7, none⟩ (.bool ((rd_T73 l0 x3_1).f5)))) := ⟨z9_1⟩
              (try clear BK243)
              (try clear HB)
              generalize ((((((((w53.setCell ⟨gb243, 0, none⟩ (.string ((rd_T73 l0 x3_1).f0))).setCell ⟨gb243, 1, none⟩ (.int .i64 ((rd_T73 l0 x3_1).f1.f0))).setCell ⟨gb243, 2, none⟩ (.int .i64 ((rd_T73 l0 x3_1).f1.f1))).setCell ⟨gb243, 3, none⟩ (.int .i64 ((rd_T73 l0 x3_1).f2))).setCell ⟨gb243, 4, none⟩ (.int .i64 ((rd_T73 l0 x3_1).f3.f0))).setCell ⟨gb243, 5, none⟩ (.int .i64 ((rd_T73 l0 x3_1).f3.f1))).setCell ⟨gb243, 6, none⟩ (.int .i64 ((rd_T73 l0 x3_1).f4))).setCell ⟨gb243, 7, none⟩ (.bool ((rd_T73 l0 x3_1).f5))) = w55 at n0_ n1_ ⊢
              have BK243 := n0_
              have HB := n1_
              clear n0_ n1_
              replace BK243 := Aside0.mk (blk_drew BK243.out)
              replace HB := Aside0.mk (below_drew1 HB.out)
              have p251 : 0 ≤ ((ji48) : Int) := of_decide_eq_true z9_6
              have q251 : (ji48) < (l0.length : Int) := of_decide_eq_true z9_6
              obtain ⟨ad251, e251, hx251_0, hx251_1, hx251_2, hx251_3, hx251_4, hx251_5, hx251_6, hx251_7⟩ := at_T73 HR0.out (ji48) p251 q251
              have hw251_7 := hx251_7
              have hw251_6 := hx251_6
              have hw251_5 := hx251_5
              have hw251_4 := hx251_4
              have hw251_3 := hx251_3
              have hw251_2 := hx251_2
              have hw251_1 := hx251_1
              have hw251_0 := hx251_0
              obtain rfl : ad242 = ad251 := (by injection e251)
              replace hx251_0 := cb_ HB hx251_0
              replace hx251_1 := cb_ HB hx251_1
              replace hx251_2 := cb_ HB hx251_2
              replace hx251_3 := cb_ HB hx251_3
              replace hx251_4 := cb_ HB hx251_4
              replace hx251_5 := cb_ HB hx251_5
              replace hx251_6 := cb_ HB hx251_6
              replace hx251_7 := cb_ HB hx251_7
              replace p251 := eq_true p251
              replace q251 := eq_true q251
              refine start_ (n := 50) (S := fun w' => w'.cell? ⟨gb243, 0, none⟩ = some (.string ((rd_T73 l0 x3_1).f0)) ∧ w'.cell? ⟨gb243, 1, none⟩ = some (.int .i64 ((rd_T73 l0 x3_1).f1.f0)) ∧ w'.cell? ⟨gb243, 2, none⟩ = some (.int .i64 ((rd_T73 l0 x3_1).f1.f1)) ∧ w'.cell? ⟨gb243, 3, none⟩ = some (.int .i64 ((rd_T73 l0 x3_1).f2)) ∧ w'.cell? ⟨gb243, 4, none⟩ = some (.int .i64 ((rd_T73 l0 x3_1).f3.f0)) ∧ w'.cell? ⟨gb243, 5, none⟩ = some (.int .i64 ((rd_T73 l0 x3_1).f3.f1)) ∧ w'.cell? ⟨gb243, 6, none⟩ = some (.int .i64 ((rd_T73 l0 x3_1).f4)) ∧ w'.cell? ⟨gb243, 7, none⟩ = some (.bool ((rd_T73 l0 x3_1).f5)) ∧ w'.cell? (ad242.add (((ji48)).toNat * 8)) = some (.string ((rd_T73 l0 (ji48)).f0)) ∧ w'.cell? ⟨(ad242.add (((ji48)).toNat * 8)).block, (ad242.add (((ji48)).toNat * 8)).off + 1, none⟩ = some (.int .i64 ((rd_T73 l0 (ji48)).f1.f0)) ∧ w'.cell? ⟨(ad242.add (((ji48)).toNat * 8)).block, (ad242.add (((ji48)).toNat * 8)).off + 2, none⟩ = some (.int .i64 ((rd_T73 l0 (ji48)).f1.f1)) ∧ w'.cell? ⟨(ad242.add (((ji48)).toNat * 8)).block, (ad242.add (((ji48)).toNat * 8)).off + 3, none⟩ = some (.int .i64 ((rd_T73 l0 (ji48)).f2)) ∧ w'.cell? ⟨(ad242.add (((ji48)).toNat * 8)).block, (ad242.add (((ji48)).toNat * 8)).off + 4, none⟩ = some (.int .i64 ((rd_T73 l0 (ji48)).f3.f0)) ∧ w'.cell? ⟨(ad242.add (((ji48)).toNat * 8)).block, (ad242.add (((ji48)).toNat * 8)).off + 5, none⟩ = some (.int .i64 ((rd_T73 l0 (ji48)).f3.f1)) ∧ w'.cell? ⟨(ad242.add (((ji48)).toNat * 8)).block, (ad242.add (((ji48)).toNat * 8)).off + 6, none⟩ = some (.int .i64 ((rd_T73 l0 (ji48)).f4)) ∧ w'.cell? ⟨(ad242.add (((ji48)).toNat * 8)).block, (ad242.add (((ji48)).toNat * 8)).off + 7, none⟩ = some (.bool ((rd_T73 l0 (ji48)).f5))) (ds := []) mk9_0 z9_2 rfl rfl ⟨bc_ BK243 0, bc_ BK243 1, bc_ BK243 2, bc_ BK243 3, bc_ BK243 4, bc_ BK243 5, bc_ BK243 6, bc_ BK243 7, (cb_ HB hw251_0), (cb_ HB hw251_1), (cb_ HB hw251_2), (cb_ HB hw251_3), (cb_ HB hw251_4), (cb_ HB hw251_5), (cb_ HB hw251_6), (cb_ HB hw251_7)⟩ (fun hHeld => ?_); refine with_tabW spec_l06Cells.tab5 spec_l06Cells.bits5 (fun HT_ HW_ => ?_)
              generalize w55.drew = w56 at BK243 HB hx251_0 hx251_1 hx251_2 hx251_3 hx251_4 hx251_5 hx251_6 hx251_7 hHeld ⊢
              refine p_ (i := 0) (N := some 15) mk9_1 ?_
              refine t_ (i := 1) (N := some 16) mk9_2 hHeld ?_ (hv := by rintro w' ⟨s0, s1, s2, s3, s4, s5, s6, s7, s8, s9, s10, s11, s12, s13, s14, s15⟩; go_simp; with_reducible rfl)
              refine o_ (i := 2) (N := some 17) mk9_3 (fun K hK => ?_)
              refine goes_ Try.func104 z9_2 rfl #[.agg #[.int .i64 ((rd_T73 l0 x3_1).f1.f0), .int .i64 ((rd_T73 l0 x3_1).f1.f1)]] (by rfl) rfl rfl z9_4 ?_
              with_reducible refine (spec_DotOk.calls ((rd_T73 l0 x3_1).f1.f0) ((rd_T73 l0 x3_1).f1.f1) true _ A4.out).mono ?_
              rintro e w57 ⟨rfl, hb⟩
              refine ⟨_, rfl, ?_⟩
              replace BK243 := Aside0.mk (blk_below (g := gb243) (o := .cells #[.string ((rd_T73 l0 x3_1).f0), .int .i64 ((rd_T73 l0 x3_1).f1.f0), .int .i64 ((rd_T73 l0 x3_1).f1.f1), .int .i64 ((rd_T73 l0 x3_1).f2), .int .i64 ((rd_T73 l0 x3_1).f3.f0), .int .i64 ((rd_T73 l0 x3_1).f3.f1), .int .i64 ((rd_T73 l0 x3_1).f4), .bool ((rd_T73 l0 x3_1).f5)] 73 (0, 0)) z9_5 hb)
              replace HB := Aside0.mk (below_step z9_1 hb)
              (try clear hb)
              (try clear hb2)
              (try clear hk)
              (try clear hi)
              refine hK.out _ _ ⟨bc_ BK243 0, bc_ BK243 1, bc_ BK243 2, bc_ BK243 3, bc_ BK243 4, bc_ BK243 5, bc_ BK243 6, bc_ BK243 7, (cb_ HB hw251_0), (cb_ HB hw251_1), (cb_ HB hw251_2), (cb_ HB hw251_3), (cb_ HB hw251_4), (cb_ HB hw251_5), (cb_ HB hw251_6), (cb_ HB hw251_7)⟩ (fun hHeld => ?_)
              clear hK K
              refine n_ ?_
              refine p_ (i := 3) (N := some 18) mk9_4 ?_
              refine p_ (i := 4) (N := some 19) mk9_5 ?_
              refine p_ (i := 5) (N := some 20) mk9_6 ?_
              refine t_ (i := 6) (N := some 21) mk9_7 hHeld ?_ (hv := by rintro w' ⟨s0, s1, s2, s3, s4, s5, s6, s7, s8, s9, s10, s11, s12, s13, s14, s15⟩; go_simp; with_reducible rfl)
              refine o_ (i := 7) (N := some 22) mk9_8 (fun K hK => ?_)
              refine goes_ Try.func103 z9_2 rfl #[.string ((rd_T73 l0 x3_1).f0)] (by rfl) rfl rfl z9_4 ?_
              with_reducible refine (spec_NameOk.calls k1 ((rd_T73 l0 x3_1).f0) true _ A6.out).mono ?_
              rintro e w' ⟨rfl, ⟨nd, rfl⟩⟩
              refine ⟨_, rfl, ?_⟩
              refine hK.out _ _ ⟨bc_ BK243 0, bc_ BK243 1, bc_ BK243 2, bc_ BK243 3, bc_ BK243 4, bc_ BK243 5, bc_ BK243 6, bc_ BK243 7, (cb_ HB hw251_0), (cb_ HB hw251_1), (cb_ HB hw251_2), (cb_ HB hw251_3), (cb_ HB hw251_4), (cb_ HB hw251_5), (cb_ HB hw251_6), (cb_ HB hw251_7)⟩ (fun hHeld => ?_)
              clear hK K
              refine n_ ?_
              refine p_ (i := 8) (N := some 23) mk9_9 ?_
              refine p_ (i := 9) (N := some 24) mk9_10 ?_
              refine p_ (i := 10) (N := some 25) mk9_11 ?_
              refine p_ (i := 11) (N := some 26) mk9_12 ?_
              refine t_ (i := 12) (N := some 27) mk9_13 hHeld ?_ (hv := by rintro w' ⟨s0, s1, s2, s3, s4, s5, s6, s7, s8, s9, s10, s11, s12, s13, s14, s15⟩; go_simp; with_reducible rfl)
              refine o_ (i := 13) (N := some 28) mk9_14 (fun K hK => ?_)
              refine goes_ Try.func102 z9_2 rfl #[.int .i64 ((rd_T73 l0 x3_1).f2), .int .i64 1, .int .i64 10000] (by rfl) rfl rfl z9_4 ?_
              with_reducible refine (spec_l01In.calls ((rd_T73 l0 x3_1).f2) 1 10000 true _ A8.out).mono ?_
              rintro e w' ⟨rfl, ⟨nd, rfl⟩⟩
              refine ⟨_, rfl, ?_⟩
              refine hK.out _ _ ⟨bc_ BK243 0, bc_ BK243 1, bc_ BK243 2, bc_ BK243 3, bc_ BK243 4, bc_ BK243 5, bc_ BK243 6, bc_ BK243 7, (cb_ HB hw251_0), (cb_ HB hw251_1), (cb_ HB hw251_2), (cb_ HB hw251_3), (cb_ HB hw251_4), (cb_ HB hw251_5), (cb_ HB hw251_6), (cb_ HB hw251_7)⟩ (fun hHeld => ?_)
              clear hK K
              refine n_ ?_
              refine p_ (i := 14) (N := some 29) mk9_15 ?_
              refine p_ (i := 15) (N := some 30) mk9_16 ?_
              refine p_ (i := 16) (N := some 31) mk9_17 ?_
              refine p_ (i := 17) (N := some 32) mk9_18 ?_
              refine t_ (i := 18) (N := some 33) mk9_19 hHeld ?_ (hv := by rintro w' ⟨s0, s1, s2, s3, s4, s5, s6, s7, s8, s9, s10, s11, s12, s13, s14, s15⟩; go_simp; with_reducible rfl)
              refine o_ (i := 19) (N := some 34) mk9_20 (fun K hK => ?_)
              refine goes_ Try.func102 z9_2 rfl #[.int .i64 ((rd_T73 l0 x3_1).f4), .int .i64 0, .int .i64 999999] (by rfl) rfl rfl z9_4 ?_
              with_reducible refine (spec_l01In.calls ((rd_T73 l0 x3_1).f4) 0 999999 true _ A10.out).mono ?_
              rintro e w' ⟨rfl, ⟨nd, rfl⟩⟩
              refine ⟨_, rfl, ?_⟩
              refine hK.out _ _ ⟨bc_ BK243 0, bc_ BK243 1, bc_ BK243 2, bc_ BK243 3, bc_ BK243 4, bc_ BK243 5, bc_ BK243 6, bc_ BK243 7, (cb_ HB hw251_0), (cb_ HB hw251_1), (cb_ HB hw251_2), (cb_ HB hw251_3), (cb_ HB hw251_4), (cb_ HB hw251_5), (cb_ HB hw251_6), (cb_ HB hw251_7)⟩ (fun hHeld => ?_)
              clear hK K
              refine n_ ?_
              refine p_ (i := 20) (N := some 35) mk9_21 ?_
              refine p_ (i := 21) (N := some 36) mk9_22 ?_
              refine p_ (i := 22) (N := some 37) mk9_23 ?_
              refine p_ (i := 23) (N := some 38) mk9_24 ?_
              refine p_ (i := 25) (N := some 40) mk9_25 ?_
              refine t_ (i := 24) (N := some 39) mk9_26 hHeld ?_ (hv := by rintro w' ⟨s0, s1, s2, s3, s4, s5, s6, s7, s8, s9, s10, s11, s12, s13, s14, s15⟩; go_simp; with_reducible rfl)
              refine p_ (i := 26) (N := some 41) mk9_27 ?_
              refine p_ (i := 27) (N := some 42) mk9_28 ?_
              refine u_ (i := 28) (N := some 43) mk9_29 ?_
              refine u_ (i := 29) (N := some 44) mk9_30 ?_
              refine u_ (i := 30) (N := some 45) mk9_31 ?_
              refine u_ (i := 31) (N := some 46) mk9_32 ?_
              refine p_ (i := 32) (N := some 47) mk9_33 ?_
              refine p_ (i := 33) (N := some 48) mk9_34 ?_
              refine p_ (i := 34) (N := some 49) mk9_35 ?_
              refine p_ (i := 35) (N := some 50) mk9_36 ?_
              refine p_ (i := 36) (N := some 51) mk9_37 ?_
              refine p_ (i := 37) (N := some 52) mk9_38 ?_
              refine p_ (i := 38) (N := some 53) mk9_39 ?_
              refine p_ (i := 39) (N := some 54) mk9_40 ?_
              refine p_ (i := 40) (N := some 55) mk9_41 ?_
              refine p_ (i := 41) (N := some 56) mk9_42 ?_
              refine p_ (i := 42) (N := some 57) mk9_43 ?_
              refine p_ (i := 44) (N := some 59) mk9_44 ?_
              refine t_ (i := 43) (N := some 58) mk9_45 hHeld ?_ (hv := by rintro w' ⟨s0, s1, s2, s3, s4, s5, s6, s7, s8, s9, s10, s11, s12, s13, s14, s15⟩; go_simp; with_reducible rfl)
              refine t_ (i := 45) (N := some 60) mk9_46 hHeld ?_ (hv := by rintro w' ⟨s0, s1, s2, s3, s4, s5, s6, s7, s8, s9, s10, s11, s12, s13, s14, s15⟩; go_simp; with_reducible rfl)
              refine o_ (i := 46) (N := some 61) mk9_47 (fun K hK => ?_)
              refine goes_ Try.func105 z9_2 rfl #[.agg #[.int .i64 ((rd_T73 l0 (ji48)).f1.f0), .int .i64 ((rd_T73 l0 (ji48)).f1.f1)], .agg #[.int .i64 ((rd_T73 l0 x3_1).f1.f0), .int .i64 ((rd_T73 l0 x3_1).f1.f1)]] (by rfl) rfl rfl z9_9 ?_
              with_reducible refine (spec_l06Before.calls ((rd_T73 l0 (ji48)).f1.f0) ((rd_T73 l0 (ji48)).f1.f1) ((rd_T73 l0 x3_1).f1.f0) ((rd_T73 l0 x3_1).f1.f1) true _ A51.out).mono ?_
              rintro e w58 ⟨rfl, hb⟩
              refine ⟨_, rfl, ?_⟩
              replace BK243 := Aside0.mk (blk_below (g := gb243) (o := .cells #[.string ((rd_T73 l0 x3_1).f0), .int .i64 ((rd_T73 l0 x3_1).f1.f0), .int .i64 ((rd_T73 l0 x3_1).f1.f1), .int .i64 ((rd_T73 l0 x3_1).f2), .int .i64 ((rd_T73 l0 x3_1).f3.f0), .int .i64 ((rd_T73 l0 x3_1).f3.f1), .int .i64 ((rd_T73 l0 x3_1).f4), .bool ((rd_T73 l0 x3_1).f5)] 73 (0, 0)) z9_5 hb)
              replace HB := Aside0.mk (below_step z9_1 hb)
              (try clear hb)
              (try clear hb2)
              (try clear hk)
              (try clear hi)
              refine hK.out _ _ ⟨bc_ BK243 0, bc_ BK243 1, bc_ BK243 2, bc_ BK243 3, bc_ BK243 4, bc_ BK243 5, bc_ BK243 6, bc_ BK243 7, (cb_ HB hw251_0), (cb_ HB hw251_1), (cb_ HB hw251_2), (cb_ HB hw251_3), (cb_ HB hw251_4), (cb_ HB hw251_5), (cb_ HB hw251_6), (cb_ HB hw251_7)⟩ (fun hHeld => ?_)
              clear hK K
              refine n_ ?_
              refine p_ (i := 47) (N := some 62) mk9_48 ?_
              refine p_ (i := 48) (N := some 63) mk9_49 ?_
              refine p_ (i := 49) (N := some 64) mk9_50 ?_
              refine done_ (done_of HT_.out z9_2) ?_
              try go_wp2
              go_roundg k1
              case measure => have := HK1.out; omega
              case rel => exact ⟨(wrap64 (x3_1 + 1)), z9_8, H', ⟨by have := HK1.out; omega⟩, ⟨z9_1⟩⟩
             ·
              replace c52 := Bool.eq_false_iff.mpr c52
              subst c52
              rw [if_neg (show ¬ (false = true) by decide)] at H
              obtain rfl := Option.some.inj H
              have p242 : 0 ≤ (x3_1 : Int) := of_decide_eq_true z9_6
              have q242 : x3_1 < (l0.length : Int) := of_decide_eq_true z9_6
              obtain ⟨ad242, e242, hx242_0, hx242_1, hx242_2, hx242_3, hx242_4, hx242_5, hx242_6, hx242_7⟩ := at_T73 HR0.out x3_1 p242 q242
              cases e242
              replace hx242_0 := cb_ HB hx242_0
              replace hx242_1 := cb_ HB hx242_1
              replace hx242_2 := cb_ HB hx242_2
              replace hx242_3 := cb_ HB hx242_3
              replace hx242_4 := cb_ HB hx242_4
              replace hx242_5 := cb_ HB hx242_5
              replace hx242_6 := cb_ HB hx242_6
              replace hx242_7 := cb_ HB hx242_7
              replace p242 := eq_true p242
              replace q242 := eq_true q242
              try go_wp2_with (first | ((with_reducible refine gate_dst (N := 4) rfl ?_); refine box_event ?hg (N := 4) ?hd (cs := #[.string (⟨#[]⟩ : ByteArray), .int .i64 0, .int .i64 0, .int .i64 0, .int .i64 0, .int .i64 0, .int .i64 0, .bool false]) (t := 73) ?hr ?_; (case hd => rfl); (case hg => rfl); (case hr => first | (go_simp; done) | (go_simp; rfl)); intro gb243 hg w59 hbox hb; have BK243 := Aside0.mk (hbox); have GW243 := gw_ w z9_3 hg; have GE243 := gw_ w z9_3 hg; replace HB := Aside0.mk (below_step z9_3 hb); clear hb hbox hg; obtain ⟨hcz60_0, hcz60_1, hcz60_2, hcz60_3, hcz60_4, hcz60_5, hcz60_6, hcz60_7, hfz60_0, hfz60_1, hfz60_2, hfz60_3, hfz60_4, hfz60_5, hfz60_6, hfz60_7⟩ := bc8 BK243.out))
              have n0_ : Aside0 (((((((((w59.setCell ⟨gb243, 0, none⟩ (.string ((rd_T73 l0 x3_1).f0))).setCell ⟨gb243, 1, none⟩ (.int .i64 ((rd_T73 l0 x3_1).f1.f0))).setCell ⟨gb243, 2, none⟩ (.int .i64 ((rd_T73 l0 x3_1).f1.f1))).setCell ⟨gb243, 3, none⟩ (.int .i64 ((rd_T73 l0 x3_1).f2))).setCell ⟨gb243, 4, none⟩ (.int .i64 ((rd_T73 l0 x3_1).f3.f0))).setCell ⟨gb243, 5, none⟩ (.int .i64 ((rd_T73 l0 x3_1).f3.f1))).setCell ⟨gb243, 6, none⟩ (.int .i64 ((rd_T73 l0 x3_1).f4))).setCell ⟨gb243, 7, none⟩ (.bool ((rd_T73 l0 x3_1).f5))).heap[gb243]? = some (.cells #[.string ((rd_T73 l0 x3_1).f0), .int .i64 ((rd_T73 l0 x3_1).f1.f0), .int .i64 ((rd_T73 l0 x3_1).f1.f1), .int .i64 ((rd_T73 l0 x3_1).f2), .int .i64 ((rd_T73 l0 x3_1).f3.f0), .int .i64 ((rd_T73 l0 x3_1).f3.f1), .int .i64 ((rd_T73 l0 x3_1).f4), .bool ((rd_T73 l0 x3_1).f5)] 73 (0, 0))) := ⟨z9_0⟩
              have n1_ : Aside0 (Below w.heap.size w ((((((((w59.setCell ⟨gb243, 0, none⟩ (.string ((rd_T73 l0 x3_1).f0))).setCell ⟨gb243, 1, none⟩ (.int .i64 ((rd_T73 l0 x3_1).f1.f0))).setCell ⟨gb243, 2, none⟩ (.int .i64 ((rd_T73 l0 x3_1).f1.f1))).setCell ⟨gb243, 3, none⟩ (.int .i64 ((rd_T73 l0 x3_1).f2))).setCell ⟨gb243, 4, none⟩ (.int .i64 ((rd_T73 l0 x3_1).f3.f0))).setCell ⟨gb243, 5, none⟩ (.int .i64 ((rd_T73 l0 x3_1).f3.f1))).setCell ⟨gb243, 6, none⟩ (.int .i64 ((rd_T73 l0 x3_1).f4))).setCell ⟨gb243, 7, none⟩ (.bool ((rd_T73 l0 x3_1).f5)))) := ⟨z9_1⟩
              (try clear BK243)
              (try clear HB)
              generalize ((((((((w59.setCell ⟨gb243, 0, none⟩ (.string ((rd_T73 l0 x3_1).f0))).setCell ⟨gb243, 1, none⟩ (.int .i64 ((rd_T73 l0 x3_1).f1.f0))).setCell ⟨gb243, 2, none⟩ (.int .i64 ((rd_T73 l0 x3_1).f1.f1))).setCell ⟨gb243, 3, none⟩ (.int .i64 ((rd_T73 l0 x3_1).f2))).setCell ⟨gb243, 4, none⟩ (.int .i64 ((rd_T73 l0 x3_1).f3.f0))).setCell ⟨gb243, 5, none⟩ (.int .i64 ((rd_T73 l0 x3_1).f3.f1))).setCell ⟨gb243, 6, none⟩ (.int .i64 ((rd_T73 l0 x3_1).f4))).setCell ⟨gb243, 7, none⟩ (.bool ((rd_T73 l0 x3_1).f5))) = w61 at n0_ n1_ ⊢
              have BK243 := n0_
              have HB := n1_
              clear n0_ n1_
              replace BK243 := Aside0.mk (blk_drew BK243.out)
              replace HB := Aside0.mk (below_drew1 HB.out)
              have p251 : 0 ≤ ((ji48) : Int) := of_decide_eq_true z9_6
              have q251 : (ji48) < (l0.length : Int) := of_decide_eq_true z9_6
              obtain ⟨ad251, e251, hx251_0, hx251_1, hx251_2, hx251_3, hx251_4, hx251_5, hx251_6, hx251_7⟩ := at_T73 HR0.out (ji48) p251 q251
              have hw251_7 := hx251_7
              have hw251_6 := hx251_6
              have hw251_5 := hx251_5
              have hw251_4 := hx251_4
              have hw251_3 := hx251_3
              have hw251_2 := hx251_2
              have hw251_1 := hx251_1
              have hw251_0 := hx251_0
              obtain rfl : ad242 = ad251 := (by injection e251)
              replace hx251_0 := cb_ HB hx251_0
              replace hx251_1 := cb_ HB hx251_1
              replace hx251_2 := cb_ HB hx251_2
              replace hx251_3 := cb_ HB hx251_3
              replace hx251_4 := cb_ HB hx251_4
              replace hx251_5 := cb_ HB hx251_5
              replace hx251_6 := cb_ HB hx251_6
              replace hx251_7 := cb_ HB hx251_7
              replace p251 := eq_true p251
              replace q251 := eq_true q251
              refine start_ (n := 50) (S := fun w' => w'.cell? ⟨gb243, 0, none⟩ = some (.string ((rd_T73 l0 x3_1).f0)) ∧ w'.cell? ⟨gb243, 1, none⟩ = some (.int .i64 ((rd_T73 l0 x3_1).f1.f0)) ∧ w'.cell? ⟨gb243, 2, none⟩ = some (.int .i64 ((rd_T73 l0 x3_1).f1.f1)) ∧ w'.cell? ⟨gb243, 3, none⟩ = some (.int .i64 ((rd_T73 l0 x3_1).f2)) ∧ w'.cell? ⟨gb243, 4, none⟩ = some (.int .i64 ((rd_T73 l0 x3_1).f3.f0)) ∧ w'.cell? ⟨gb243, 5, none⟩ = some (.int .i64 ((rd_T73 l0 x3_1).f3.f1)) ∧ w'.cell? ⟨gb243, 6, none⟩ = some (.int .i64 ((rd_T73 l0 x3_1).f4)) ∧ w'.cell? ⟨gb243, 7, none⟩ = some (.bool ((rd_T73 l0 x3_1).f5)) ∧ w'.cell? (ad242.add (((ji48)).toNat * 8)) = some (.string ((rd_T73 l0 (ji48)).f0)) ∧ w'.cell? ⟨(ad242.add (((ji48)).toNat * 8)).block, (ad242.add (((ji48)).toNat * 8)).off + 1, none⟩ = some (.int .i64 ((rd_T73 l0 (ji48)).f1.f0)) ∧ w'.cell? ⟨(ad242.add (((ji48)).toNat * 8)).block, (ad242.add (((ji48)).toNat * 8)).off + 2, none⟩ = some (.int .i64 ((rd_T73 l0 (ji48)).f1.f1)) ∧ w'.cell? ⟨(ad242.add (((ji48)).toNat * 8)).block, (ad242.add (((ji48)).toNat * 8)).off + 3, none⟩ = some (.int .i64 ((rd_T73 l0 (ji48)).f2)) ∧ w'.cell? ⟨(ad242.add (((ji48)).toNat * 8)).block, (ad242.add (((ji48)).toNat * 8)).off + 4, none⟩ = some (.int .i64 ((rd_T73 l0 (ji48)).f3.f0)) ∧ w'.cell? ⟨(ad242.add (((ji48)).toNat * 8)).block, (ad242.add (((ji48)).toNat * 8)).off + 5, none⟩ = some (.int .i64 ((rd_T73 l0 (ji48)).f3.f1)) ∧ w'.cell? ⟨(ad242.add (((ji48)).toNat * 8)).block, (ad242.add (((ji48)).toNat * 8)).off + 6, none⟩ = some (.int .i64 ((rd_T73 l0 (ji48)).f4)) ∧ w'.cell? ⟨(ad242.add (((ji48)).toNat * 8)).block, (ad242.add (((ji48)).toNat * 8)).off + 7, none⟩ = some (.bool ((rd_T73 l0 (ji48)).f5))) (ds := []) mk9_0 z9_2 rfl rfl ⟨bc_ BK243 0, bc_ BK243 1, bc_ BK243 2, bc_ BK243 3, bc_ BK243 4, bc_ BK243 5, bc_ BK243 6, bc_ BK243 7, (cb_ HB hw251_0), (cb_ HB hw251_1), (cb_ HB hw251_2), (cb_ HB hw251_3), (cb_ HB hw251_4), (cb_ HB hw251_5), (cb_ HB hw251_6), (cb_ HB hw251_7)⟩ (fun hHeld => ?_); refine with_tabW spec_l06Cells.tab5 spec_l06Cells.bits5 (fun HT_ HW_ => ?_)
              generalize w61.drew = w62 at BK243 HB hx251_0 hx251_1 hx251_2 hx251_3 hx251_4 hx251_5 hx251_6 hx251_7 hHeld ⊢
              refine p_ (i := 0) (N := some 15) mk9_1 ?_
              refine t_ (i := 1) (N := some 16) mk9_2 hHeld ?_ (hv := by rintro w' ⟨s0, s1, s2, s3, s4, s5, s6, s7, s8, s9, s10, s11, s12, s13, s14, s15⟩; go_simp; with_reducible rfl)
              refine o_ (i := 2) (N := some 17) mk9_3 (fun K hK => ?_)
              refine goes_ Try.func104 z9_2 rfl #[.agg #[.int .i64 ((rd_T73 l0 x3_1).f1.f0), .int .i64 ((rd_T73 l0 x3_1).f1.f1)]] (by rfl) rfl rfl z9_4 ?_
              with_reducible refine (spec_DotOk.calls ((rd_T73 l0 x3_1).f1.f0) ((rd_T73 l0 x3_1).f1.f1) true _ A4.out).mono ?_
              rintro e w63 ⟨rfl, hb⟩
              refine ⟨_, rfl, ?_⟩
              replace BK243 := Aside0.mk (blk_below (g := gb243) (o := .cells #[.string ((rd_T73 l0 x3_1).f0), .int .i64 ((rd_T73 l0 x3_1).f1.f0), .int .i64 ((rd_T73 l0 x3_1).f1.f1), .int .i64 ((rd_T73 l0 x3_1).f2), .int .i64 ((rd_T73 l0 x3_1).f3.f0), .int .i64 ((rd_T73 l0 x3_1).f3.f1), .int .i64 ((rd_T73 l0 x3_1).f4), .bool ((rd_T73 l0 x3_1).f5)] 73 (0, 0)) z9_5 hb)
              replace HB := Aside0.mk (below_step z9_1 hb)
              (try clear hb)
              (try clear hb2)
              (try clear hk)
              (try clear hi)
              refine hK.out _ _ ⟨bc_ BK243 0, bc_ BK243 1, bc_ BK243 2, bc_ BK243 3, bc_ BK243 4, bc_ BK243 5, bc_ BK243 6, bc_ BK243 7, (cb_ HB hw251_0), (cb_ HB hw251_1), (cb_ HB hw251_2), (cb_ HB hw251_3), (cb_ HB hw251_4), (cb_ HB hw251_5), (cb_ HB hw251_6), (cb_ HB hw251_7)⟩ (fun hHeld => ?_)
              clear hK K
              refine n_ ?_
              refine p_ (i := 3) (N := some 18) mk9_4 ?_
              refine p_ (i := 4) (N := some 19) mk9_5 ?_
              refine p_ (i := 5) (N := some 20) mk9_6 ?_
              refine t_ (i := 6) (N := some 21) mk9_7 hHeld ?_ (hv := by rintro w' ⟨s0, s1, s2, s3, s4, s5, s6, s7, s8, s9, s10, s11, s12, s13, s14, s15⟩; go_simp; with_reducible rfl)
              refine o_ (i := 7) (N := some 22) mk9_8 (fun K hK => ?_)
              refine goes_ Try.func103 z9_2 rfl #[.string ((rd_T73 l0 x3_1).f0)] (by rfl) rfl rfl z9_4 ?_
              with_reducible refine (spec_NameOk.calls k1 ((rd_T73 l0 x3_1).f0) true _ A6.out).mono ?_
              rintro e w' ⟨rfl, ⟨nd, rfl⟩⟩
              refine ⟨_, rfl, ?_⟩
              refine hK.out _ _ ⟨bc_ BK243 0, bc_ BK243 1, bc_ BK243 2, bc_ BK243 3, bc_ BK243 4, bc_ BK243 5, bc_ BK243 6, bc_ BK243 7, (cb_ HB hw251_0), (cb_ HB hw251_1), (cb_ HB hw251_2), (cb_ HB hw251_3), (cb_ HB hw251_4), (cb_ HB hw251_5), (cb_ HB hw251_6), (cb_ HB hw251_7)⟩ (fun hHeld => ?_)
              clear hK K
              refine n_ ?_
              refine p_ (i := 8) (N := some 23) mk9_9 ?_
              refine p_ (i := 9) (N := some 24) mk9_10 ?_
              refine p_ (i := 10) (N := some 25) mk9_11 ?_
              refine p_ (i := 11) (N := some 26) mk9_12 ?_
              refine t_ (i := 12) (N := some 27) mk9_13 hHeld ?_ (hv := by rintro w' ⟨s0, s1, s2, s3, s4, s5, s6, s7, s8, s9, s10, s11, s12, s13, s14, s15⟩; go_simp; with_reducible rfl)
              refine o_ (i := 13) (N := some 28) mk9_14 (fun K hK => ?_)
              refine goes_ Try.func102 z9_2 rfl #[.int .i64 ((rd_T73 l0 x3_1).f2), .int .i64 1, .int .i64 10000] (by rfl) rfl rfl z9_4 ?_
              with_reducible refine (spec_l01In.calls ((rd_T73 l0 x3_1).f2) 1 10000 true _ A8.out).mono ?_
              rintro e w' ⟨rfl, ⟨nd, rfl⟩⟩
              refine ⟨_, rfl, ?_⟩
              refine hK.out _ _ ⟨bc_ BK243 0, bc_ BK243 1, bc_ BK243 2, bc_ BK243 3, bc_ BK243 4, bc_ BK243 5, bc_ BK243 6, bc_ BK243 7, (cb_ HB hw251_0), (cb_ HB hw251_1), (cb_ HB hw251_2), (cb_ HB hw251_3), (cb_ HB hw251_4), (cb_ HB hw251_5), (cb_ HB hw251_6), (cb_ HB hw251_7)⟩ (fun hHeld => ?_)
              clear hK K
              refine n_ ?_
              refine p_ (i := 14) (N := some 29) mk9_15 ?_
              refine p_ (i := 15) (N := some 30) mk9_16 ?_
              refine p_ (i := 16) (N := some 31) mk9_17 ?_
              refine p_ (i := 17) (N := some 32) mk9_18 ?_
              refine t_ (i := 18) (N := some 33) mk9_19 hHeld ?_ (hv := by rintro w' ⟨s0, s1, s2, s3, s4, s5, s6, s7, s8, s9, s10, s11, s12, s13, s14, s15⟩; go_simp; with_reducible rfl)
              refine o_ (i := 19) (N := some 34) mk9_20 (fun K hK => ?_)
              refine goes_ Try.func102 z9_2 rfl #[.int .i64 ((rd_T73 l0 x3_1).f4), .int .i64 0, .int .i64 999999] (by rfl) rfl rfl z9_4 ?_
              with_reducible refine (spec_l01In.calls ((rd_T73 l0 x3_1).f4) 0 999999 true _ A10.out).mono ?_
              rintro e w' ⟨rfl, ⟨nd, rfl⟩⟩
              refine ⟨_, rfl, ?_⟩
              refine hK.out _ _ ⟨bc_ BK243 0, bc_ BK243 1, bc_ BK243 2, bc_ BK243 3, bc_ BK243 4, bc_ BK243 5, bc_ BK243 6, bc_ BK243 7, (cb_ HB hw251_0), (cb_ HB hw251_1), (cb_ HB hw251_2), (cb_ HB hw251_3), (cb_ HB hw251_4), (cb_ HB hw251_5), (cb_ HB hw251_6), (cb_ HB hw251_7)⟩ (fun hHeld => ?_)
              clear hK K
              refine n_ ?_
              refine p_ (i := 20) (N := some 35) mk9_21 ?_
              refine p_ (i := 21) (N := some 36) mk9_22 ?_
              refine p_ (i := 22) (N := some 37) mk9_23 ?_
              refine p_ (i := 23) (N := some 38) mk9_24 ?_
              refine p_ (i := 25) (N := some 40) mk9_25 ?_
              refine t_ (i := 24) (N := some 39) mk9_26 hHeld ?_ (hv := by rintro w' ⟨s0, s1, s2, s3, s4, s5, s6, s7, s8, s9, s10, s11, s12, s13, s14, s15⟩; go_simp; with_reducible rfl)
              refine p_ (i := 26) (N := some 41) mk9_27 ?_
              refine p_ (i := 27) (N := some 42) mk9_28 ?_
              refine u_ (i := 28) (N := some 43) mk9_29 ?_
              refine u_ (i := 29) (N := some 44) mk9_30 ?_
              refine u_ (i := 30) (N := some 45) mk9_31 ?_
              refine u_ (i := 31) (N := some 46) mk9_32 ?_
              refine p_ (i := 32) (N := some 47) mk9_33 ?_
              refine p_ (i := 33) (N := some 48) mk9_34 ?_
              refine p_ (i := 34) (N := some 49) mk9_35 ?_
              refine p_ (i := 35) (N := some 50) mk9_36 ?_
              refine p_ (i := 36) (N := some 51) mk9_37 ?_
              refine p_ (i := 37) (N := some 52) mk9_38 ?_
              refine p_ (i := 38) (N := some 53) mk9_39 ?_
              refine p_ (i := 39) (N := some 54) mk9_40 ?_
              refine p_ (i := 40) (N := some 55) mk9_41 ?_
              refine p_ (i := 41) (N := some 56) mk9_42 ?_
              refine p_ (i := 42) (N := some 57) mk9_43 ?_
              refine p_ (i := 44) (N := some 59) mk9_44 ?_
              refine t_ (i := 43) (N := some 58) mk9_45 hHeld ?_ (hv := by rintro w' ⟨s0, s1, s2, s3, s4, s5, s6, s7, s8, s9, s10, s11, s12, s13, s14, s15⟩; go_simp; with_reducible rfl)
              refine t_ (i := 45) (N := some 60) mk9_46 hHeld ?_ (hv := by rintro w' ⟨s0, s1, s2, s3, s4, s5, s6, s7, s8, s9, s10, s11, s12, s13, s14, s15⟩; go_simp; with_reducible rfl)
              refine o_ (i := 46) (N := some 61) mk9_47 (fun K hK => ?_)
              refine goes_ Try.func105 z9_2 rfl #[.agg #[.int .i64 ((rd_T73 l0 (ji48)).f1.f0), .int .i64 ((rd_T73 l0 (ji48)).f1.f1)], .agg #[.int .i64 ((rd_T73 l0 x3_1).f1.f0), .int .i64 ((rd_T73 l0 x3_1).f1.f1)]] (by rfl) rfl rfl z9_9 ?_
              with_reducible refine (spec_l06Before.calls ((rd_T73 l0 (ji48)).f1.f0) ((rd_T73 l0 (ji48)).f1.f1) ((rd_T73 l0 x3_1).f1.f0) ((rd_T73 l0 x3_1).f1.f1) false _ A51.out).mono ?_
              rintro e w64 ⟨rfl, hb⟩
              refine ⟨_, rfl, ?_⟩
              replace BK243 := Aside0.mk (blk_below (g := gb243) (o := .cells #[.string ((rd_T73 l0 x3_1).f0), .int .i64 ((rd_T73 l0 x3_1).f1.f0), .int .i64 ((rd_T73 l0 x3_1).f1.f1), .int .i64 ((rd_T73 l0 x3_1).f2), .int .i64 ((rd_T73 l0 x3_1).f3.f0), .int .i64 ((rd_T73 l0 x3_1).f3.f1), .int .i64 ((rd_T73 l0 x3_1).f4), .bool ((rd_T73 l0 x3_1).f5)] 73 (0, 0)) z9_5 hb)
              replace HB := Aside0.mk (below_step z9_1 hb)
              (try clear hb)
              (try clear hb2)
              (try clear hk)
              (try clear hi)
              refine hK.out _ _ ⟨bc_ BK243 0, bc_ BK243 1, bc_ BK243 2, bc_ BK243 3, bc_ BK243 4, bc_ BK243 5, bc_ BK243 6, bc_ BK243 7, (cb_ HB hw251_0), (cb_ HB hw251_1), (cb_ HB hw251_2), (cb_ HB hw251_3), (cb_ HB hw251_4), (cb_ HB hw251_5), (cb_ HB hw251_6), (cb_ HB hw251_7)⟩ (fun hHeld => ?_)
              clear hK K
              refine n_ ?_
              refine p_ (i := 47) (N := some 62) mk9_48 ?_
              refine p_ (i := 48) (N := some 63) mk9_49 ?_
              refine p_ (i := 49) (N := some 64) mk9_50 ?_
              refine done_ (done_of HT_.out z9_2) ?_
              try go_wp2
              go_ret
              exact ⟨by first | rfl | (simp [errW_none, errW_some] <;> rfl) | (simp only [← hji48]; first | rfl | (simp [errW_none, errW_some] <;> rfl)) | (simp [*, errW_none, errW_some] <;> rfl), z9_1⟩
            ·
             rw [if_neg c50] at H
             exact absurd H (by simp)
           ·
            rw [if_neg c49] at H
            exact absurd H (by simp)
          ·
           rw [if_neg c47] at H
           have c47b0 : decide (0 < x3_1) = false := decide_eq_false c47
           clear c47
           have H' := Aside0.mk H
           clear H
           have p242 : 0 ≤ (x3_1 : Int) := of_decide_eq_true z9_6
           have q242 : x3_1 < (l0.length : Int) := of_decide_eq_true z9_6
           obtain ⟨ad242, e242, hx242_0, hx242_1, hx242_2, hx242_3, hx242_4, hx242_5, hx242_6, hx242_7⟩ := at_T73 HR0.out x3_1 p242 q242
           cases e242
           replace hx242_0 := cb_ HB hx242_0
           replace hx242_1 := cb_ HB hx242_1
           replace hx242_2 := cb_ HB hx242_2
           replace hx242_3 := cb_ HB hx242_3
           replace hx242_4 := cb_ HB hx242_4
           replace hx242_5 := cb_ HB hx242_5
           replace hx242_6 := cb_ HB hx242_6
           replace hx242_7 := cb_ HB hx242_7
           replace p242 := eq_true p242
           replace q242 := eq_true q242
           try go_wp2_with (first | ((with_reducible refine gate_dst (N := 4) rfl ?_); refine box_event ?hg (N := 4) ?hd (cs := #[.string (⟨#[]⟩ : ByteArray), .int .i64 0, .int .i64 0, .int .i64 0, .int .i64 0, .int .i64 0, .int .i64 0, .bool false]) (t := 73) ?hr ?_; (case hd => rfl); (case hg => rfl); (case hr => first | (go_simp; done) | (go_simp; rfl)); intro gb243 hg w65 hbox hb; have BK243 := Aside0.mk (hbox); have GW243 := gw_ w z9_3 hg; have GE243 := gw_ w z9_3 hg; replace HB := Aside0.mk (below_step z9_3 hb); clear hb hbox hg; obtain ⟨hcz66_0, hcz66_1, hcz66_2, hcz66_3, hcz66_4, hcz66_5, hcz66_6, hcz66_7, hfz66_0, hfz66_1, hfz66_2, hfz66_3, hfz66_4, hfz66_5, hfz66_6, hfz66_7⟩ := bc8 BK243.out))
           have n0_ : Aside0 (((((((((w65.setCell ⟨gb243, 0, none⟩ (.string ((rd_T73 l0 x3_1).f0))).setCell ⟨gb243, 1, none⟩ (.int .i64 ((rd_T73 l0 x3_1).f1.f0))).setCell ⟨gb243, 2, none⟩ (.int .i64 ((rd_T73 l0 x3_1).f1.f1))).setCell ⟨gb243, 3, none⟩ (.int .i64 ((rd_T73 l0 x3_1).f2))).setCell ⟨gb243, 4, none⟩ (.int .i64 ((rd_T73 l0 x3_1).f3.f0))).setCell ⟨gb243, 5, none⟩ (.int .i64 ((rd_T73 l0 x3_1).f3.f1))).setCell ⟨gb243, 6, none⟩ (.int .i64 ((rd_T73 l0 x3_1).f4))).setCell ⟨gb243, 7, none⟩ (.bool ((rd_T73 l0 x3_1).f5))).heap[gb243]? = some (.cells #[.string ((rd_T73 l0 x3_1).f0), .int .i64 ((rd_T73 l0 x3_1).f1.f0), .int .i64 ((rd_T73 l0 x3_1).f1.f1), .int .i64 ((rd_T73 l0 x3_1).f2), .int .i64 ((rd_T73 l0 x3_1).f3.f0), .int .i64 ((rd_T73 l0 x3_1).f3.f1), .int .i64 ((rd_T73 l0 x3_1).f4), .bool ((rd_T73 l0 x3_1).f5)] 73 (0, 0))) := ⟨z9_0⟩
           have n1_ : Aside0 (Below w.heap.size w ((((((((w65.setCell ⟨gb243, 0, none⟩ (.string ((rd_T73 l0 x3_1).f0))).setCell ⟨gb243, 1, none⟩ (.int .i64 ((rd_T73 l0 x3_1).f1.f0))).setCell ⟨gb243, 2, none⟩ (.int .i64 ((rd_T73 l0 x3_1).f1.f1))).setCell ⟨gb243, 3, none⟩ (.int .i64 ((rd_T73 l0 x3_1).f2))).setCell ⟨gb243, 4, none⟩ (.int .i64 ((rd_T73 l0 x3_1).f3.f0))).setCell ⟨gb243, 5, none⟩ (.int .i64 ((rd_T73 l0 x3_1).f3.f1))).setCell ⟨gb243, 6, none⟩ (.int .i64 ((rd_T73 l0 x3_1).f4))).setCell ⟨gb243, 7, none⟩ (.bool ((rd_T73 l0 x3_1).f5)))) := ⟨z9_1⟩
           (try clear BK243)
           (try clear HB)
           generalize ((((((((w65.setCell ⟨gb243, 0, none⟩ (.string ((rd_T73 l0 x3_1).f0))).setCell ⟨gb243, 1, none⟩ (.int .i64 ((rd_T73 l0 x3_1).f1.f0))).setCell ⟨gb243, 2, none⟩ (.int .i64 ((rd_T73 l0 x3_1).f1.f1))).setCell ⟨gb243, 3, none⟩ (.int .i64 ((rd_T73 l0 x3_1).f2))).setCell ⟨gb243, 4, none⟩ (.int .i64 ((rd_T73 l0 x3_1).f3.f0))).setCell ⟨gb243, 5, none⟩ (.int .i64 ((rd_T73 l0 x3_1).f3.f1))).setCell ⟨gb243, 6, none⟩ (.int .i64 ((rd_T73 l0 x3_1).f4))).setCell ⟨gb243, 7, none⟩ (.bool ((rd_T73 l0 x3_1).f5))) = w67 at n0_ n1_ ⊢
           have BK243 := n0_
           have HB := n1_
           clear n0_ n1_
           replace BK243 := Aside0.mk (blk_drew BK243.out)
           replace HB := Aside0.mk (below_drew1 HB.out)
           refine start_ (n := 50) (S := fun w' => w'.cell? ⟨gb243, 0, none⟩ = some (.string ((rd_T73 l0 x3_1).f0)) ∧ w'.cell? ⟨gb243, 1, none⟩ = some (.int .i64 ((rd_T73 l0 x3_1).f1.f0)) ∧ w'.cell? ⟨gb243, 2, none⟩ = some (.int .i64 ((rd_T73 l0 x3_1).f1.f1)) ∧ w'.cell? ⟨gb243, 3, none⟩ = some (.int .i64 ((rd_T73 l0 x3_1).f2)) ∧ w'.cell? ⟨gb243, 4, none⟩ = some (.int .i64 ((rd_T73 l0 x3_1).f3.f0)) ∧ w'.cell? ⟨gb243, 5, none⟩ = some (.int .i64 ((rd_T73 l0 x3_1).f3.f1)) ∧ w'.cell? ⟨gb243, 6, none⟩ = some (.int .i64 ((rd_T73 l0 x3_1).f4)) ∧ w'.cell? ⟨gb243, 7, none⟩ = some (.bool ((rd_T73 l0 x3_1).f5))) (ds := []) mk9_0 z9_2 rfl rfl ⟨bc_ BK243 0, bc_ BK243 1, bc_ BK243 2, bc_ BK243 3, bc_ BK243 4, bc_ BK243 5, bc_ BK243 6, bc_ BK243 7⟩ (fun hHeld => ?_); refine with_tabW spec_l06Cells.tab5 spec_l06Cells.bits5 (fun HT_ HW_ => ?_)
           generalize w67.drew = w68 at BK243 HB hHeld ⊢
           refine p_ (i := 0) (N := some 15) mk9_1 ?_
           refine t_ (i := 1) (N := some 16) mk9_2 hHeld ?_ (hv := by rintro w' ⟨s0, s1, s2, s3, s4, s5, s6, s7⟩; go_simp; with_reducible rfl)
           refine o_ (i := 2) (N := some 17) mk9_3 (fun K hK => ?_)
           refine goes_ Try.func104 z9_2 rfl #[.agg #[.int .i64 ((rd_T73 l0 x3_1).f1.f0), .int .i64 ((rd_T73 l0 x3_1).f1.f1)]] (by rfl) rfl rfl z9_4 ?_
           with_reducible refine (spec_DotOk.calls ((rd_T73 l0 x3_1).f1.f0) ((rd_T73 l0 x3_1).f1.f1) true _ A4.out).mono ?_
           rintro e w69 ⟨rfl, hb⟩
           refine ⟨_, rfl, ?_⟩
           replace BK243 := Aside0.mk (blk_below (g := gb243) (o := .cells #[.string ((rd_T73 l0 x3_1).f0), .int .i64 ((rd_T73 l0 x3_1).f1.f0), .int .i64 ((rd_T73 l0 x3_1).f1.f1), .int .i64 ((rd_T73 l0 x3_1).f2), .int .i64 ((rd_T73 l0 x3_1).f3.f0), .int .i64 ((rd_T73 l0 x3_1).f3.f1), .int .i64 ((rd_T73 l0 x3_1).f4), .bool ((rd_T73 l0 x3_1).f5)] 73 (0, 0)) z9_5 hb)
           replace HB := Aside0.mk (below_step z9_1 hb)
           (try clear hb)
           (try clear hb2)
           (try clear hk)
           (try clear hi)
           refine hK.out _ _ ⟨bc_ BK243 0, bc_ BK243 1, bc_ BK243 2, bc_ BK243 3, bc_ BK243 4, bc_ BK243 5, bc_ BK243 6, bc_ BK243 7⟩ (fun hHeld => ?_)
           clear hK K
           refine n_ ?_
           refine p_ (i := 3) (N := some 18) mk9_4 ?_
           refine p_ (i := 4) (N := some 19) mk9_5 ?_
           refine p_ (i := 5) (N := some 20) mk9_6 ?_
           refine t_ (i := 6) (N := some 21) mk9_7 hHeld ?_ (hv := by rintro w' ⟨s0, s1, s2, s3, s4, s5, s6, s7⟩; go_simp; with_reducible rfl)
           refine o_ (i := 7) (N := some 22) mk9_8 (fun K hK => ?_)
           refine goes_ Try.func103 z9_2 rfl #[.string ((rd_T73 l0 x3_1).f0)] (by rfl) rfl rfl z9_4 ?_
           with_reducible refine (spec_NameOk.calls k1 ((rd_T73 l0 x3_1).f0) true _ A6.out).mono ?_
           rintro e w' ⟨rfl, ⟨nd, rfl⟩⟩
           refine ⟨_, rfl, ?_⟩
           refine hK.out _ _ ⟨bc_ BK243 0, bc_ BK243 1, bc_ BK243 2, bc_ BK243 3, bc_ BK243 4, bc_ BK243 5, bc_ BK243 6, bc_ BK243 7⟩ (fun hHeld => ?_)
           clear hK K
           refine n_ ?_
           refine p_ (i := 8) (N := some 23) mk9_9 ?_
           refine p_ (i := 9) (N := some 24) mk9_10 ?_
           refine p_ (i := 10) (N := some 25) mk9_11 ?_
           refine p_ (i := 11) (N := some 26) mk9_12 ?_
           refine t_ (i := 12) (N := some 27) mk9_13 hHeld ?_ (hv := by rintro w' ⟨s0, s1, s2, s3, s4, s5, s6, s7⟩; go_simp; with_reducible rfl)
           refine o_ (i := 13) (N := some 28) mk9_14 (fun K hK => ?_)
           refine goes_ Try.func102 z9_2 rfl #[.int .i64 ((rd_T73 l0 x3_1).f2), .int .i64 1, .int .i64 10000] (by rfl) rfl rfl z9_4 ?_
           with_reducible refine (spec_l01In.calls ((rd_T73 l0 x3_1).f2) 1 10000 true _ A8.out).mono ?_
           rintro e w' ⟨rfl, ⟨nd, rfl⟩⟩
           refine ⟨_, rfl, ?_⟩
           refine hK.out _ _ ⟨bc_ BK243 0, bc_ BK243 1, bc_ BK243 2, bc_ BK243 3, bc_ BK243 4, bc_ BK243 5, bc_ BK243 6, bc_ BK243 7⟩ (fun hHeld => ?_)
           clear hK K
           refine n_ ?_
           refine p_ (i := 14) (N := some 29) mk9_15 ?_
           refine p_ (i := 15) (N := some 30) mk9_16 ?_
           refine p_ (i := 16) (N := some 31) mk9_17 ?_
           refine p_ (i := 17) (N := some 32) mk9_18 ?_
           refine t_ (i := 18) (N := some 33) mk9_19 hHeld ?_ (hv := by rintro w' ⟨s0, s1, s2, s3, s4, s5, s6, s7⟩; go_simp; with_reducible rfl)
           refine o_ (i := 19) (N := some 34) mk9_20 (fun K hK => ?_)
           refine goes_ Try.func102 z9_2 rfl #[.int .i64 ((rd_T73 l0 x3_1).f4), .int .i64 0, .int .i64 999999] (by rfl) rfl rfl z9_4 ?_
           with_reducible refine (spec_l01In.calls ((rd_T73 l0 x3_1).f4) 0 999999 true _ A10.out).mono ?_
           rintro e w' ⟨rfl, ⟨nd, rfl⟩⟩
           refine ⟨_, rfl, ?_⟩
           refine hK.out _ _ ⟨bc_ BK243 0, bc_ BK243 1, bc_ BK243 2, bc_ BK243 3, bc_ BK243 4, bc_ BK243 5, bc_ BK243 6, bc_ BK243 7⟩ (fun hHeld => ?_)
           clear hK K
           refine n_ ?_
           refine p_ (i := 20) (N := some 35) mk9_21 ?_
           refine p_ (i := 21) (N := some 36) mk9_22 ?_
           refine p_ (i := 22) (N := some 37) mk9_23 ?_
           refine p_ (i := 23) (N := some 38) mk9_24 ?_
           refine p_ (i := 25) (N := some 40) mk9_25 ?_
           refine t_ (i := 24) (N := some 39) mk9_26 hHeld ?_ (hv := by rintro w' ⟨s0, s1, s2, s3, s4, s5, s6, s7⟩; go_simp; with_reducible rfl)
           refine p_ (i := 26) (N := some 41) mk9_27 ?_
           refine p_ (i := 27) (N := some 42) mk9_28 ?_
           refine u_ (i := 28) (N := some 43) mk9_29 ?_
           refine u_ (i := 29) (N := some 44) mk9_30 ?_
           refine u_ (i := 30) (N := some 45) mk9_31 ?_
           refine u_ (i := 31) (N := some 46) mk9_32 ?_
           refine p_ (i := 32) (N := some 47) mk9_33 ?_
           refine p_ (i := 33) (N := some 48) mk9_34 ?_
           refine p_ (i := 34) (N := some 49) mk9_35 ?_
           refine p_ (i := 35) (N := some 50) mk9_36 ?_
           refine p_ (i := 36) (N := some 51) mk9_37 ?_
           refine p_ (i := 37) (N := some 52) mk9_38 ?_
           refine u_ (i := 38) (N := some 53) mk9_39 ?_
           refine u_ (i := 39) (N := some 54) mk9_40 ?_
           refine u_ (i := 40) (N := some 55) mk9_41 ?_
           refine u_ (i := 41) (N := some 56) mk9_42 ?_
           refine u_ (i := 42) (N := some 57) mk9_43 ?_
           refine u_ (i := 43) (N := some 58) mk9_51 ?_
           refine u_ (i := 44) (N := some 59) mk9_45 ?_
           refine u_ (i := 45) (N := some 60) mk9_46 ?_
           refine u_ (i := 46) (N := some 61) mk9_47 ?_
           refine u_ (i := 47) (N := some 62) mk9_48 ?_
           refine p_ (i := 48) (N := some 63) mk9_49 ?_
           refine p_ (i := 49) (N := some 64) mk9_50 ?_
           refine done_ (done_of HT_.out z9_2) ?_
           try go_wp2
           go_roundg k1
           case measure => have := HK1.out; omega
           case rel => exact ⟨(wrap64 (x3_1 + 1)), z9_8, H', ⟨by have := HK1.out; omega⟩, ⟨z9_1⟩⟩
        ·
         replace c11 := Bool.eq_false_iff.mpr c11
         subst c11
         rw [if_neg (show ¬ (false = true) by decide)] at H
         obtain rfl := Option.some.inj H
         have p242 : 0 ≤ (x3_1 : Int) := of_decide_eq_true z9_6
         have q242 : x3_1 < (l0.length : Int) := of_decide_eq_true z9_6
         obtain ⟨ad242, e242, hx242_0, hx242_1, hx242_2, hx242_3, hx242_4, hx242_5, hx242_6, hx242_7⟩ := at_T73 HR0.out x3_1 p242 q242
         cases e242
         replace hx242_0 := cb_ HB hx242_0
         replace hx242_1 := cb_ HB hx242_1
         replace hx242_2 := cb_ HB hx242_2
         replace hx242_3 := cb_ HB hx242_3
         replace hx242_4 := cb_ HB hx242_4
         replace hx242_5 := cb_ HB hx242_5
         replace hx242_6 := cb_ HB hx242_6
         replace hx242_7 := cb_ HB hx242_7
         replace p242 := eq_true p242
         replace q242 := eq_true q242
         try go_wp2_with (first | ((with_reducible refine gate_dst (N := 4) rfl ?_); refine box_event ?hg (N := 4) ?hd (cs := #[.string (⟨#[]⟩ : ByteArray), .int .i64 0, .int .i64 0, .int .i64 0, .int .i64 0, .int .i64 0, .int .i64 0, .bool false]) (t := 73) ?hr ?_; (case hd => rfl); (case hg => rfl); (case hr => first | (go_simp; done) | (go_simp; rfl)); intro gb243 hg w70 hbox hb; have BK243 := Aside0.mk (hbox); have GW243 := gw_ w z9_3 hg; have GE243 := gw_ w z9_3 hg; replace HB := Aside0.mk (below_step z9_3 hb); clear hb hbox hg; obtain ⟨hcz71_0, hcz71_1, hcz71_2, hcz71_3, hcz71_4, hcz71_5, hcz71_6, hcz71_7, hfz71_0, hfz71_1, hfz71_2, hfz71_3, hfz71_4, hfz71_5, hfz71_6, hfz71_7⟩ := bc8 BK243.out))
         have n0_ : Aside0 (((((((((w70.setCell ⟨gb243, 0, none⟩ (.string ((rd_T73 l0 x3_1).f0))).setCell ⟨gb243, 1, none⟩ (.int .i64 ((rd_T73 l0 x3_1).f1.f0))).setCell ⟨gb243, 2, none⟩ (.int .i64 ((rd_T73 l0 x3_1).f1.f1))).setCell ⟨gb243, 3, none⟩ (.int .i64 ((rd_T73 l0 x3_1).f2))).setCell ⟨gb243, 4, none⟩ (.int .i64 ((rd_T73 l0 x3_1).f3.f0))).setCell ⟨gb243, 5, none⟩ (.int .i64 ((rd_T73 l0 x3_1).f3.f1))).setCell ⟨gb243, 6, none⟩ (.int .i64 ((rd_T73 l0 x3_1).f4))).setCell ⟨gb243, 7, none⟩ (.bool ((rd_T73 l0 x3_1).f5))).heap[gb243]? = some (.cells #[.string ((rd_T73 l0 x3_1).f0), .int .i64 ((rd_T73 l0 x3_1).f1.f0), .int .i64 ((rd_T73 l0 x3_1).f1.f1), .int .i64 ((rd_T73 l0 x3_1).f2), .int .i64 ((rd_T73 l0 x3_1).f3.f0), .int .i64 ((rd_T73 l0 x3_1).f3.f1), .int .i64 ((rd_T73 l0 x3_1).f4), .bool ((rd_T73 l0 x3_1).f5)] 73 (0, 0))) := ⟨z9_0⟩
         have n1_ : Aside0 (Below w.heap.size w ((((((((w70.setCell ⟨gb243, 0, none⟩ (.string ((rd_T73 l0 x3_1).f0))).setCell ⟨gb243, 1, none⟩ (.int .i64 ((rd_T73 l0 x3_1).f1.f0))).setCell ⟨gb243, 2, none⟩ (.int .i64 ((rd_T73 l0 x3_1).f1.f1))).setCell ⟨gb243, 3, none⟩ (.int .i64 ((rd_T73 l0 x3_1).f2))).setCell ⟨gb243, 4, none⟩ (.int .i64 ((rd_T73 l0 x3_1).f3.f0))).setCell ⟨gb243, 5, none⟩ (.int .i64 ((rd_T73 l0 x3_1).f3.f1))).setCell ⟨gb243, 6, none⟩ (.int .i64 ((rd_T73 l0 x3_1).f4))).setCell ⟨gb243, 7, none⟩ (.bool ((rd_T73 l0 x3_1).f5)))) := ⟨z9_1⟩
         (try clear BK243)
         (try clear HB)
         generalize ((((((((w70.setCell ⟨gb243, 0, none⟩ (.string ((rd_T73 l0 x3_1).f0))).setCell ⟨gb243, 1, none⟩ (.int .i64 ((rd_T73 l0 x3_1).f1.f0))).setCell ⟨gb243, 2, none⟩ (.int .i64 ((rd_T73 l0 x3_1).f1.f1))).setCell ⟨gb243, 3, none⟩ (.int .i64 ((rd_T73 l0 x3_1).f2))).setCell ⟨gb243, 4, none⟩ (.int .i64 ((rd_T73 l0 x3_1).f3.f0))).setCell ⟨gb243, 5, none⟩ (.int .i64 ((rd_T73 l0 x3_1).f3.f1))).setCell ⟨gb243, 6, none⟩ (.int .i64 ((rd_T73 l0 x3_1).f4))).setCell ⟨gb243, 7, none⟩ (.bool ((rd_T73 l0 x3_1).f5))) = w72 at n0_ n1_ ⊢
         have BK243 := n0_
         have HB := n1_
         clear n0_ n1_
         replace BK243 := Aside0.mk (blk_drew BK243.out)
         replace HB := Aside0.mk (below_drew1 HB.out)
         refine start_ (n := 50) (S := fun w' => w'.cell? ⟨gb243, 0, none⟩ = some (.string ((rd_T73 l0 x3_1).f0)) ∧ w'.cell? ⟨gb243, 1, none⟩ = some (.int .i64 ((rd_T73 l0 x3_1).f1.f0)) ∧ w'.cell? ⟨gb243, 2, none⟩ = some (.int .i64 ((rd_T73 l0 x3_1).f1.f1)) ∧ w'.cell? ⟨gb243, 3, none⟩ = some (.int .i64 ((rd_T73 l0 x3_1).f2)) ∧ w'.cell? ⟨gb243, 4, none⟩ = some (.int .i64 ((rd_T73 l0 x3_1).f3.f0)) ∧ w'.cell? ⟨gb243, 5, none⟩ = some (.int .i64 ((rd_T73 l0 x3_1).f3.f1)) ∧ w'.cell? ⟨gb243, 6, none⟩ = some (.int .i64 ((rd_T73 l0 x3_1).f4)) ∧ w'.cell? ⟨gb243, 7, none⟩ = some (.bool ((rd_T73 l0 x3_1).f5))) (ds := []) mk9_0 z9_2 rfl rfl ⟨bc_ BK243 0, bc_ BK243 1, bc_ BK243 2, bc_ BK243 3, bc_ BK243 4, bc_ BK243 5, bc_ BK243 6, bc_ BK243 7⟩ (fun hHeld => ?_); refine with_tabW spec_l06Cells.tab5 spec_l06Cells.bits5 (fun HT_ HW_ => ?_)
         generalize w72.drew = w73 at BK243 HB hHeld ⊢
         refine p_ (i := 0) (N := some 15) mk9_1 ?_
         refine t_ (i := 1) (N := some 16) mk9_2 hHeld ?_ (hv := by rintro w' ⟨s0, s1, s2, s3, s4, s5, s6, s7⟩; go_simp; with_reducible rfl)
         refine o_ (i := 2) (N := some 17) mk9_3 (fun K hK => ?_)
         refine goes_ Try.func104 z9_2 rfl #[.agg #[.int .i64 ((rd_T73 l0 x3_1).f1.f0), .int .i64 ((rd_T73 l0 x3_1).f1.f1)]] (by rfl) rfl rfl z9_4 ?_
         with_reducible refine (spec_DotOk.calls ((rd_T73 l0 x3_1).f1.f0) ((rd_T73 l0 x3_1).f1.f1) true _ A4.out).mono ?_
         rintro e w74 ⟨rfl, hb⟩
         refine ⟨_, rfl, ?_⟩
         replace BK243 := Aside0.mk (blk_below (g := gb243) (o := .cells #[.string ((rd_T73 l0 x3_1).f0), .int .i64 ((rd_T73 l0 x3_1).f1.f0), .int .i64 ((rd_T73 l0 x3_1).f1.f1), .int .i64 ((rd_T73 l0 x3_1).f2), .int .i64 ((rd_T73 l0 x3_1).f3.f0), .int .i64 ((rd_T73 l0 x3_1).f3.f1), .int .i64 ((rd_T73 l0 x3_1).f4), .bool ((rd_T73 l0 x3_1).f5)] 73 (0, 0)) z9_5 hb)
         replace HB := Aside0.mk (below_step z9_1 hb)
         (try clear hb)
         (try clear hb2)
         (try clear hk)
         (try clear hi)
         refine hK.out _ _ ⟨bc_ BK243 0, bc_ BK243 1, bc_ BK243 2, bc_ BK243 3, bc_ BK243 4, bc_ BK243 5, bc_ BK243 6, bc_ BK243 7⟩ (fun hHeld => ?_)
         clear hK K
         refine n_ ?_
         refine p_ (i := 3) (N := some 18) mk9_4 ?_
         refine p_ (i := 4) (N := some 19) mk9_5 ?_
         refine p_ (i := 5) (N := some 20) mk9_6 ?_
         refine t_ (i := 6) (N := some 21) mk9_7 hHeld ?_ (hv := by rintro w' ⟨s0, s1, s2, s3, s4, s5, s6, s7⟩; go_simp; with_reducible rfl)
         refine o_ (i := 7) (N := some 22) mk9_8 (fun K hK => ?_)
         refine goes_ Try.func103 z9_2 rfl #[.string ((rd_T73 l0 x3_1).f0)] (by rfl) rfl rfl z9_4 ?_
         with_reducible refine (spec_NameOk.calls k1 ((rd_T73 l0 x3_1).f0) true _ A6.out).mono ?_
         rintro e w' ⟨rfl, ⟨nd, rfl⟩⟩
         refine ⟨_, rfl, ?_⟩
         refine hK.out _ _ ⟨bc_ BK243 0, bc_ BK243 1, bc_ BK243 2, bc_ BK243 3, bc_ BK243 4, bc_ BK243 5, bc_ BK243 6, bc_ BK243 7⟩ (fun hHeld => ?_)
         clear hK K
         refine n_ ?_
         refine p_ (i := 8) (N := some 23) mk9_9 ?_
         refine p_ (i := 9) (N := some 24) mk9_10 ?_
         refine p_ (i := 10) (N := some 25) mk9_11 ?_
         refine p_ (i := 11) (N := some 26) mk9_12 ?_
         refine t_ (i := 12) (N := some 27) mk9_13 hHeld ?_ (hv := by rintro w' ⟨s0, s1, s2, s3, s4, s5, s6, s7⟩; go_simp; with_reducible rfl)
         refine o_ (i := 13) (N := some 28) mk9_14 (fun K hK => ?_)
         refine goes_ Try.func102 z9_2 rfl #[.int .i64 ((rd_T73 l0 x3_1).f2), .int .i64 1, .int .i64 10000] (by rfl) rfl rfl z9_4 ?_
         with_reducible refine (spec_l01In.calls ((rd_T73 l0 x3_1).f2) 1 10000 true _ A8.out).mono ?_
         rintro e w' ⟨rfl, ⟨nd, rfl⟩⟩
         refine ⟨_, rfl, ?_⟩
         refine hK.out _ _ ⟨bc_ BK243 0, bc_ BK243 1, bc_ BK243 2, bc_ BK243 3, bc_ BK243 4, bc_ BK243 5, bc_ BK243 6, bc_ BK243 7⟩ (fun hHeld => ?_)
         clear hK K
         refine n_ ?_
         refine p_ (i := 14) (N := some 29) mk9_15 ?_
         refine p_ (i := 15) (N := some 30) mk9_16 ?_
         refine p_ (i := 16) (N := some 31) mk9_17 ?_
         refine p_ (i := 17) (N := some 32) mk9_18 ?_
         refine t_ (i := 18) (N := some 33) mk9_19 hHeld ?_ (hv := by rintro w' ⟨s0, s1, s2, s3, s4, s5, s6, s7⟩; go_simp; with_reducible rfl)
         refine o_ (i := 19) (N := some 34) mk9_20 (fun K hK => ?_)
         refine goes_ Try.func102 z9_2 rfl #[.int .i64 ((rd_T73 l0 x3_1).f4), .int .i64 0, .int .i64 999999] (by rfl) rfl rfl z9_4 ?_
         with_reducible refine (spec_l01In.calls ((rd_T73 l0 x3_1).f4) 0 999999 false _ A10.out).mono ?_
         rintro e w' ⟨rfl, ⟨nd, rfl⟩⟩
         refine ⟨_, rfl, ?_⟩
         refine hK.out _ _ ⟨bc_ BK243 0, bc_ BK243 1, bc_ BK243 2, bc_ BK243 3, bc_ BK243 4, bc_ BK243 5, bc_ BK243 6, bc_ BK243 7⟩ (fun hHeld => ?_)
         clear hK K
         refine n_ ?_
         refine p_ (i := 20) (N := some 35) mk9_21 ?_
         refine p_ (i := 21) (N := some 36) mk9_22 ?_
         refine p_ (i := 22) (N := some 37) mk9_23 ?_
         refine u_ (i := 23) (N := some 38) mk9_24 ?_
         refine u_ (i := 24) (N := some 39) mk9_52 ?_
         refine u_ (i := 25) (N := some 40) mk9_26 ?_
         refine u_ (i := 26) (N := some 41) mk9_27 ?_
         refine u_ (i := 27) (N := some 42) mk9_28 ?_
         refine u_ (i := 28) (N := some 43) mk9_29 ?_
         refine u_ (i := 29) (N := some 44) mk9_30 ?_
         refine u_ (i := 30) (N := some 45) mk9_31 ?_
         refine u_ (i := 31) (N := some 46) mk9_32 ?_
         refine u_ (i := 32) (N := some 47) mk9_33 ?_
         refine p_ (i := 33) (N := some 48) mk9_34 ?_
         refine p_ (i := 34) (N := some 49) mk9_35 ?_
         refine u_ (i := 35) (N := some 50) mk9_36 ?_
         refine u_ (i := 36) (N := some 51) mk9_37 ?_
         refine u_ (i := 37) (N := some 52) mk9_38 ?_
         refine u_ (i := 38) (N := some 53) mk9_39 ?_
         refine u_ (i := 39) (N := some 54) mk9_40 ?_
         refine u_ (i := 40) (N := some 55) mk9_41 ?_
         refine u_ (i := 41) (N := some 56) mk9_42 ?_
         refine u_ (i := 42) (N := some 57) mk9_43 ?_
         refine u_ (i := 43) (N := some 58) mk9_51 ?_
         refine u_ (i := 44) (N := some 59) mk9_45 ?_
         refine u_ (i := 45) (N := some 60) mk9_46 ?_
         refine u_ (i := 46) (N := some 61) mk9_47 ?_
         refine u_ (i := 47) (N := some 62) mk9_48 ?_
         refine u_ (i := 48) (N := some 63) mk9_49 ?_
         refine p_ (i := 49) (N := some 64) mk9_50 ?_
         refine done_ (done_of HT_.out z9_2) ?_
         try go_wp2
         go_ret
         exact ⟨z9_7, z9_1⟩
       ·
        replace c9 := Bool.eq_false_iff.mpr c9
        subst c9
        rw [if_neg (show ¬ (false = true) by decide)] at H
        obtain rfl := Option.some.inj H
        have p242 : 0 ≤ (x3_1 : Int) := of_decide_eq_true z9_6
        have q242 : x3_1 < (l0.length : Int) := of_decide_eq_true z9_6
        obtain ⟨ad242, e242, hx242_0, hx242_1, hx242_2, hx242_3, hx242_4, hx242_5, hx242_6, hx242_7⟩ := at_T73 HR0.out x3_1 p242 q242
        cases e242
        replace hx242_0 := cb_ HB hx242_0
        replace hx242_1 := cb_ HB hx242_1
        replace hx242_2 := cb_ HB hx242_2
        replace hx242_3 := cb_ HB hx242_3
        replace hx242_4 := cb_ HB hx242_4
        replace hx242_5 := cb_ HB hx242_5
        replace hx242_6 := cb_ HB hx242_6
        replace hx242_7 := cb_ HB hx242_7
        replace p242 := eq_true p242
        replace q242 := eq_true q242
        try go_wp2_with (first | ((with_reducible refine gate_dst (N := 4) rfl ?_); refine box_event ?hg (N := 4) ?hd (cs := #[.string (⟨#[]⟩ : ByteArray), .int .i64 0, .int .i64 0, .int .i64 0, .int .i64 0, .int .i64 0, .int .i64 0, .bool false]) (t := 73) ?hr ?_; (case hd => rfl); (case hg => rfl); (case hr => first | (go_simp; done) | (go_simp; rfl)); intro gb243 hg w75 hbox hb; have BK243 := Aside0.mk (hbox); have GW243 := gw_ w z9_3 hg; have GE243 := gw_ w z9_3 hg; replace HB := Aside0.mk (below_step z9_3 hb); clear hb hbox hg; obtain ⟨hcz76_0, hcz76_1, hcz76_2, hcz76_3, hcz76_4, hcz76_5, hcz76_6, hcz76_7, hfz76_0, hfz76_1, hfz76_2, hfz76_3, hfz76_4, hfz76_5, hfz76_6, hfz76_7⟩ := bc8 BK243.out))
        have n0_ : Aside0 (((((((((w75.setCell ⟨gb243, 0, none⟩ (.string ((rd_T73 l0 x3_1).f0))).setCell ⟨gb243, 1, none⟩ (.int .i64 ((rd_T73 l0 x3_1).f1.f0))).setCell ⟨gb243, 2, none⟩ (.int .i64 ((rd_T73 l0 x3_1).f1.f1))).setCell ⟨gb243, 3, none⟩ (.int .i64 ((rd_T73 l0 x3_1).f2))).setCell ⟨gb243, 4, none⟩ (.int .i64 ((rd_T73 l0 x3_1).f3.f0))).setCell ⟨gb243, 5, none⟩ (.int .i64 ((rd_T73 l0 x3_1).f3.f1))).setCell ⟨gb243, 6, none⟩ (.int .i64 ((rd_T73 l0 x3_1).f4))).setCell ⟨gb243, 7, none⟩ (.bool ((rd_T73 l0 x3_1).f5))).heap[gb243]? = some (.cells #[.string ((rd_T73 l0 x3_1).f0), .int .i64 ((rd_T73 l0 x3_1).f1.f0), .int .i64 ((rd_T73 l0 x3_1).f1.f1), .int .i64 ((rd_T73 l0 x3_1).f2), .int .i64 ((rd_T73 l0 x3_1).f3.f0), .int .i64 ((rd_T73 l0 x3_1).f3.f1), .int .i64 ((rd_T73 l0 x3_1).f4), .bool ((rd_T73 l0 x3_1).f5)] 73 (0, 0))) := ⟨z9_0⟩
        have n1_ : Aside0 (Below w.heap.size w ((((((((w75.setCell ⟨gb243, 0, none⟩ (.string ((rd_T73 l0 x3_1).f0))).setCell ⟨gb243, 1, none⟩ (.int .i64 ((rd_T73 l0 x3_1).f1.f0))).setCell ⟨gb243, 2, none⟩ (.int .i64 ((rd_T73 l0 x3_1).f1.f1))).setCell ⟨gb243, 3, none⟩ (.int .i64 ((rd_T73 l0 x3_1).f2))).setCell ⟨gb243, 4, none⟩ (.int .i64 ((rd_T73 l0 x3_1).f3.f0))).setCell ⟨gb243, 5, none⟩ (.int .i64 ((rd_T73 l0 x3_1).f3.f1))).setCell ⟨gb243, 6, none⟩ (.int .i64 ((rd_T73 l0 x3_1).f4))).setCell ⟨gb243, 7, none⟩ (.bool ((rd_T73 l0 x3_1).f5)))) := ⟨z9_1⟩
        (try clear BK243)
        (try clear HB)
        generalize ((((((((w75.setCell ⟨gb243, 0, none⟩ (.string ((rd_T73 l0 x3_1).f0))).setCell ⟨gb243, 1, none⟩ (.int .i64 ((rd_T73 l0 x3_1).f1.f0))).setCell ⟨gb243, 2, none⟩ (.int .i64 ((rd_T73 l0 x3_1).f1.f1))).setCell ⟨gb243, 3, none⟩ (.int .i64 ((rd_T73 l0 x3_1).f2))).setCell ⟨gb243, 4, none⟩ (.int .i64 ((rd_T73 l0 x3_1).f3.f0))).setCell ⟨gb243, 5, none⟩ (.int .i64 ((rd_T73 l0 x3_1).f3.f1))).setCell ⟨gb243, 6, none⟩ (.int .i64 ((rd_T73 l0 x3_1).f4))).setCell ⟨gb243, 7, none⟩ (.bool ((rd_T73 l0 x3_1).f5))) = w77 at n0_ n1_ ⊢
        have BK243 := n0_
        have HB := n1_
        clear n0_ n1_
        replace BK243 := Aside0.mk (blk_drew BK243.out)
        replace HB := Aside0.mk (below_drew1 HB.out)
        refine start_ (n := 50) (S := fun w' => w'.cell? ⟨gb243, 0, none⟩ = some (.string ((rd_T73 l0 x3_1).f0)) ∧ w'.cell? ⟨gb243, 1, none⟩ = some (.int .i64 ((rd_T73 l0 x3_1).f1.f0)) ∧ w'.cell? ⟨gb243, 2, none⟩ = some (.int .i64 ((rd_T73 l0 x3_1).f1.f1)) ∧ w'.cell? ⟨gb243, 3, none⟩ = some (.int .i64 ((rd_T73 l0 x3_1).f2)) ∧ w'.cell? ⟨gb243, 4, none⟩ = some (.int .i64 ((rd_T73 l0 x3_1).f3.f0)) ∧ w'.cell? ⟨gb243, 5, none⟩ = some (.int .i64 ((rd_T73 l0 x3_1).f3.f1)) ∧ w'.cell? ⟨gb243, 6, none⟩ = some (.int .i64 ((rd_T73 l0 x3_1).f4)) ∧ w'.cell? ⟨gb243, 7, none⟩ = some (.bool ((rd_T73 l0 x3_1).f5))) (ds := []) mk9_0 z9_2 rfl rfl ⟨bc_ BK243 0, bc_ BK243 1, bc_ BK243 2, bc_ BK243 3, bc_ BK243 4, bc_ BK243 5, bc_ BK243 6, bc_ BK243 7⟩ (fun hHeld => ?_); refine with_tabW spec_l06Cells.tab5 spec_l06Cells.bits5 (fun HT_ HW_ => ?_)
        generalize w77.drew = w78 at BK243 HB hHeld ⊢
        refine p_ (i := 0) (N := some 15) mk9_1 ?_
        refine t_ (i := 1) (N := some 16) mk9_2 hHeld ?_ (hv := by rintro w' ⟨s0, s1, s2, s3, s4, s5, s6, s7⟩; go_simp; with_reducible rfl)
        refine o_ (i := 2) (N := some 17) mk9_3 (fun K hK => ?_)
        refine goes_ Try.func104 z9_2 rfl #[.agg #[.int .i64 ((rd_T73 l0 x3_1).f1.f0), .int .i64 ((rd_T73 l0 x3_1).f1.f1)]] (by rfl) rfl rfl z9_4 ?_
        with_reducible refine (spec_DotOk.calls ((rd_T73 l0 x3_1).f1.f0) ((rd_T73 l0 x3_1).f1.f1) true _ A4.out).mono ?_
        rintro e w79 ⟨rfl, hb⟩
        refine ⟨_, rfl, ?_⟩
        replace BK243 := Aside0.mk (blk_below (g := gb243) (o := .cells #[.string ((rd_T73 l0 x3_1).f0), .int .i64 ((rd_T73 l0 x3_1).f1.f0), .int .i64 ((rd_T73 l0 x3_1).f1.f1), .int .i64 ((rd_T73 l0 x3_1).f2), .int .i64 ((rd_T73 l0 x3_1).f3.f0), .int .i64 ((rd_T73 l0 x3_1).f3.f1), .int .i64 ((rd_T73 l0 x3_1).f4), .bool ((rd_T73 l0 x3_1).f5)] 73 (0, 0)) z9_5 hb)
        replace HB := Aside0.mk (below_step z9_1 hb)
        (try clear hb)
        (try clear hb2)
        (try clear hk)
        (try clear hi)
        refine hK.out _ _ ⟨bc_ BK243 0, bc_ BK243 1, bc_ BK243 2, bc_ BK243 3, bc_ BK243 4, bc_ BK243 5, bc_ BK243 6, bc_ BK243 7⟩ (fun hHeld => ?_)
        clear hK K
        refine n_ ?_
        refine p_ (i := 3) (N := some 18) mk9_4 ?_
        refine p_ (i := 4) (N := some 19) mk9_5 ?_
        refine p_ (i := 5) (N := some 20) mk9_6 ?_
        refine t_ (i := 6) (N := some 21) mk9_7 hHeld ?_ (hv := by rintro w' ⟨s0, s1, s2, s3, s4, s5, s6, s7⟩; go_simp; with_reducible rfl)
        refine o_ (i := 7) (N := some 22) mk9_8 (fun K hK => ?_)
        refine goes_ Try.func103 z9_2 rfl #[.string ((rd_T73 l0 x3_1).f0)] (by rfl) rfl rfl z9_4 ?_
        with_reducible refine (spec_NameOk.calls k1 ((rd_T73 l0 x3_1).f0) true _ A6.out).mono ?_
        rintro e w' ⟨rfl, ⟨nd, rfl⟩⟩
        refine ⟨_, rfl, ?_⟩
        refine hK.out _ _ ⟨bc_ BK243 0, bc_ BK243 1, bc_ BK243 2, bc_ BK243 3, bc_ BK243 4, bc_ BK243 5, bc_ BK243 6, bc_ BK243 7⟩ (fun hHeld => ?_)
        clear hK K
        refine n_ ?_
        refine p_ (i := 8) (N := some 23) mk9_9 ?_
        refine p_ (i := 9) (N := some 24) mk9_10 ?_
        refine p_ (i := 10) (N := some 25) mk9_11 ?_
        refine p_ (i := 11) (N := some 26) mk9_12 ?_
        refine t_ (i := 12) (N := some 27) mk9_13 hHeld ?_ (hv := by rintro w' ⟨s0, s1, s2, s3, s4, s5, s6, s7⟩; go_simp; with_reducible rfl)
        refine o_ (i := 13) (N := some 28) mk9_14 (fun K hK => ?_)
        refine goes_ Try.func102 z9_2 rfl #[.int .i64 ((rd_T73 l0 x3_1).f2), .int .i64 1, .int .i64 10000] (by rfl) rfl rfl z9_4 ?_
        with_reducible refine (spec_l01In.calls ((rd_T73 l0 x3_1).f2) 1 10000 false _ A8.out).mono ?_
        rintro e w' ⟨rfl, ⟨nd, rfl⟩⟩
        refine ⟨_, rfl, ?_⟩
        refine hK.out _ _ ⟨bc_ BK243 0, bc_ BK243 1, bc_ BK243 2, bc_ BK243 3, bc_ BK243 4, bc_ BK243 5, bc_ BK243 6, bc_ BK243 7⟩ (fun hHeld => ?_)
        clear hK K
        refine n_ ?_
        refine p_ (i := 14) (N := some 29) mk9_15 ?_
        refine p_ (i := 15) (N := some 30) mk9_16 ?_
        refine p_ (i := 16) (N := some 31) mk9_17 ?_
        refine u_ (i := 17) (N := some 32) mk9_18 ?_
        refine u_ (i := 18) (N := some 33) mk9_19 ?_
        refine u_ (i := 19) (N := some 34) mk9_20 ?_
        refine u_ (i := 20) (N := some 35) mk9_21 ?_
        refine p_ (i := 21) (N := some 36) mk9_22 ?_
        refine p_ (i := 22) (N := some 37) mk9_23 ?_
        refine u_ (i := 23) (N := some 38) mk9_24 ?_
        refine u_ (i := 24) (N := some 39) mk9_52 ?_
        refine u_ (i := 25) (N := some 40) mk9_26 ?_
        refine u_ (i := 26) (N := some 41) mk9_27 ?_
        refine u_ (i := 27) (N := some 42) mk9_28 ?_
        refine u_ (i := 28) (N := some 43) mk9_29 ?_
        refine u_ (i := 29) (N := some 44) mk9_30 ?_
        refine u_ (i := 30) (N := some 45) mk9_31 ?_
        refine u_ (i := 31) (N := some 46) mk9_32 ?_
        refine u_ (i := 32) (N := some 47) mk9_33 ?_
        refine p_ (i := 33) (N := some 48) mk9_34 ?_
        refine p_ (i := 34) (N := some 49) mk9_35 ?_
        refine u_ (i := 35) (N := some 50) mk9_36 ?_
        refine u_ (i := 36) (N := some 51) mk9_37 ?_
        refine u_ (i := 37) (N := some 52) mk9_38 ?_
        refine u_ (i := 38) (N := some 53) mk9_39 ?_
        refine u_ (i := 39) (N := some 54) mk9_40 ?_
        refine u_ (i := 40) (N := some 55) mk9_41 ?_
        refine u_ (i := 41) (N := some 56) mk9_42 ?_
        refine u_ (i := 42) (N := some 57) mk9_43 ?_
        refine u_ (i := 43) (N := some 58) mk9_51 ?_
        refine u_ (i := 44) (N := some 59) mk9_45 ?_
        refine u_ (i := 45) (N := some 60) mk9_46 ?_
        refine u_ (i := 46) (N := some 61) mk9_47 ?_
        refine u_ (i := 47) (N := some 62) mk9_48 ?_
        refine u_ (i := 48) (N := some 63) mk9_49 ?_
        refine p_ (i := 49) (N := some 64) mk9_50 ?_
        refine done_ (done_of HT_.out z9_2) ?_
        try go_wp2
        go_ret
        exact ⟨z9_7, z9_1⟩
      ·
       replace c7 := Bool.eq_false_iff.mpr c7
       subst c7
       rw [if_neg (show ¬ (false = true) by decide)] at H
       obtain rfl := Option.some.inj H
       have p242 : 0 ≤ (x3_1 : Int) := of_decide_eq_true z9_6
       have q242 : x3_1 < (l0.length : Int) := of_decide_eq_true z9_6
       obtain ⟨ad242, e242, hx242_0, hx242_1, hx242_2, hx242_3, hx242_4, hx242_5, hx242_6, hx242_7⟩ := at_T73 HR0.out x3_1 p242 q242
       cases e242
       replace hx242_0 := cb_ HB hx242_0
       replace hx242_1 := cb_ HB hx242_1
       replace hx242_2 := cb_ HB hx242_2
       replace hx242_3 := cb_ HB hx242_3
       replace hx242_4 := cb_ HB hx242_4
       replace hx242_5 := cb_ HB hx242_5
       replace hx242_6 := cb_ HB hx242_6
       replace hx242_7 := cb_ HB hx242_7
       replace p242 := eq_true p242
       replace q242 := eq_true q242
       try go_wp2_with (first | ((with_reducible refine gate_dst (N := 4) rfl ?_); refine box_event ?hg (N := 4) ?hd (cs := #[.string (⟨#[]⟩ : ByteArray), .int .i64 0, .int .i64 0, .int .i64 0, .int .i64 0, .int .i64 0, .int .i64 0, .bool false]) (t := 73) ?hr ?_; (case hd => rfl); (case hg => rfl); (case hr => first | (go_simp; done) | (go_simp; rfl)); intro gb243 hg w80 hbox hb; have BK243 := Aside0.mk (hbox); have GW243 := gw_ w z9_3 hg; have GE243 := gw_ w z9_3 hg; replace HB := Aside0.mk (below_step z9_3 hb); clear hb hbox hg; obtain ⟨hcz81_0, hcz81_1, hcz81_2, hcz81_3, hcz81_4, hcz81_5, hcz81_6, hcz81_7, hfz81_0, hfz81_1, hfz81_2, hfz81_3, hfz81_4, hfz81_5, hfz81_6, hfz81_7⟩ := bc8 BK243.out))
       have n0_ : Aside0 (((((((((w80.setCell ⟨gb243, 0, none⟩ (.string ((rd_T73 l0 x3_1).f0))).setCell ⟨gb243, 1, none⟩ (.int .i64 ((rd_T73 l0 x3_1).f1.f0))).setCell ⟨gb243, 2, none⟩ (.int .i64 ((rd_T73 l0 x3_1).f1.f1))).setCell ⟨gb243, 3, none⟩ (.int .i64 ((rd_T73 l0 x3_1).f2))).setCell ⟨gb243, 4, none⟩ (.int .i64 ((rd_T73 l0 x3_1).f3.f0))).setCell ⟨gb243, 5, none⟩ (.int .i64 ((rd_T73 l0 x3_1).f3.f1))).setCell ⟨gb243, 6, none⟩ (.int .i64 ((rd_T73 l0 x3_1).f4))).setCell ⟨gb243, 7, none⟩ (.bool ((rd_T73 l0 x3_1).f5))).heap[gb243]? = some (.cells #[.string ((rd_T73 l0 x3_1).f0), .int .i64 ((rd_T73 l0 x3_1).f1.f0), .int .i64 ((rd_T73 l0 x3_1).f1.f1), .int .i64 ((rd_T73 l0 x3_1).f2), .int .i64 ((rd_T73 l0 x3_1).f3.f0), .int .i64 ((rd_T73 l0 x3_1).f3.f1), .int .i64 ((rd_T73 l0 x3_1).f4), .bool ((rd_T73 l0 x3_1).f5)] 73 (0, 0))) := ⟨z9_0⟩
       have n1_ : Aside0 (Below w.heap.size w ((((((((w80.setCell ⟨gb243, 0, none⟩ (.string ((rd_T73 l0 x3_1).f0))).setCell ⟨gb243, 1, none⟩ (.int .i64 ((rd_T73 l0 x3_1).f1.f0))).setCell ⟨gb243, 2, none⟩ (.int .i64 ((rd_T73 l0 x3_1).f1.f1))).setCell ⟨gb243, 3, none⟩ (.int .i64 ((rd_T73 l0 x3_1).f2))).setCell ⟨gb243, 4, none⟩ (.int .i64 ((rd_T73 l0 x3_1).f3.f0))).setCell ⟨gb243, 5, none⟩ (.int .i64 ((rd_T73 l0 x3_1).f3.f1))).setCell ⟨gb243, 6, none⟩ (.int .i64 ((rd_T73 l0 x3_1).f4))).setCell ⟨gb243, 7, none⟩ (.bool ((rd_T73 l0 x3_1).f5)))) := ⟨z9_1⟩
       (try clear BK243)
       (try clear HB)
       generalize ((((((((w80.setCell ⟨gb243, 0, none⟩ (.string ((rd_T73 l0 x3_1).f0))).setCell ⟨gb243, 1, none⟩ (.int .i64 ((rd_T73 l0 x3_1).f1.f0))).setCell ⟨gb243, 2, none⟩ (.int .i64 ((rd_T73 l0 x3_1).f1.f1))).setCell ⟨gb243, 3, none⟩ (.int .i64 ((rd_T73 l0 x3_1).f2))).setCell ⟨gb243, 4, none⟩ (.int .i64 ((rd_T73 l0 x3_1).f3.f0))).setCell ⟨gb243, 5, none⟩ (.int .i64 ((rd_T73 l0 x3_1).f3.f1))).setCell ⟨gb243, 6, none⟩ (.int .i64 ((rd_T73 l0 x3_1).f4))).setCell ⟨gb243, 7, none⟩ (.bool ((rd_T73 l0 x3_1).f5))) = w82 at n0_ n1_ ⊢
       have BK243 := n0_
       have HB := n1_
       clear n0_ n1_
       replace BK243 := Aside0.mk (blk_drew BK243.out)
       replace HB := Aside0.mk (below_drew1 HB.out)
       refine start_ (n := 50) (S := fun w' => w'.cell? ⟨gb243, 0, none⟩ = some (.string ((rd_T73 l0 x3_1).f0)) ∧ w'.cell? ⟨gb243, 1, none⟩ = some (.int .i64 ((rd_T73 l0 x3_1).f1.f0)) ∧ w'.cell? ⟨gb243, 2, none⟩ = some (.int .i64 ((rd_T73 l0 x3_1).f1.f1)) ∧ w'.cell? ⟨gb243, 3, none⟩ = some (.int .i64 ((rd_T73 l0 x3_1).f2)) ∧ w'.cell? ⟨gb243, 4, none⟩ = some (.int .i64 ((rd_T73 l0 x3_1).f3.f0)) ∧ w'.cell? ⟨gb243, 5, none⟩ = some (.int .i64 ((rd_T73 l0 x3_1).f3.f1)) ∧ w'.cell? ⟨gb243, 6, none⟩ = some (.int .i64 ((rd_T73 l0 x3_1).f4)) ∧ w'.cell? ⟨gb243, 7, none⟩ = some (.bool ((rd_T73 l0 x3_1).f5))) (ds := []) mk9_0 z9_2 rfl rfl ⟨bc_ BK243 0, bc_ BK243 1, bc_ BK243 2, bc_ BK243 3, bc_ BK243 4, bc_ BK243 5, bc_ BK243 6, bc_ BK243 7⟩ (fun hHeld => ?_); refine with_tabW spec_l06Cells.tab5 spec_l06Cells.bits5 (fun HT_ HW_ => ?_)
       generalize w82.drew = w83 at BK243 HB hHeld ⊢
       refine p_ (i := 0) (N := some 15) mk9_1 ?_
       refine t_ (i := 1) (N := some 16) mk9_2 hHeld ?_ (hv := by rintro w' ⟨s0, s1, s2, s3, s4, s5, s6, s7⟩; go_simp; with_reducible rfl)
       refine o_ (i := 2) (N := some 17) mk9_3 (fun K hK => ?_)
       refine goes_ Try.func104 z9_2 rfl #[.agg #[.int .i64 ((rd_T73 l0 x3_1).f1.f0), .int .i64 ((rd_T73 l0 x3_1).f1.f1)]] (by rfl) rfl rfl z9_4 ?_
       with_reducible refine (spec_DotOk.calls ((rd_T73 l0 x3_1).f1.f0) ((rd_T73 l0 x3_1).f1.f1) true _ A4.out).mono ?_
       rintro e w84 ⟨rfl, hb⟩
       refine ⟨_, rfl, ?_⟩
       replace BK243 := Aside0.mk (blk_below (g := gb243) (o := .cells #[.string ((rd_T73 l0 x3_1).f0), .int .i64 ((rd_T73 l0 x3_1).f1.f0), .int .i64 ((rd_T73 l0 x3_1).f1.f1), .int .i64 ((rd_T73 l0 x3_1).f2), .int .i64 ((rd_T73 l0 x3_1).f3.f0), .int .i64 ((rd_T73 l0 x3_1).f3.f1), .int .i64 ((rd_T73 l0 x3_1).f4), .bool ((rd_T73 l0 x3_1).f5)] 73 (0, 0)) z9_5 hb)
       replace HB := Aside0.mk (below_step z9_1 hb)
       (try clear hb)
       (try clear hb2)
       (try clear hk)
       (try clear hi)
       refine hK.out _ _ ⟨bc_ BK243 0, bc_ BK243 1, bc_ BK243 2, bc_ BK243 3, bc_ BK243 4, bc_ BK243 5, bc_ BK243 6, bc_ BK243 7⟩ (fun hHeld => ?_)
       clear hK K
       refine n_ ?_
       refine p_ (i := 3) (N := some 18) mk9_4 ?_
       refine p_ (i := 4) (N := some 19) mk9_5 ?_
       refine p_ (i := 5) (N := some 20) mk9_6 ?_
       refine t_ (i := 6) (N := some 21) mk9_7 hHeld ?_ (hv := by rintro w' ⟨s0, s1, s2, s3, s4, s5, s6, s7⟩; go_simp; with_reducible rfl)
       refine o_ (i := 7) (N := some 22) mk9_8 (fun K hK => ?_)
       refine goes_ Try.func103 z9_2 rfl #[.string ((rd_T73 l0 x3_1).f0)] (by rfl) rfl rfl z9_4 ?_
       with_reducible refine (spec_NameOk.calls k1 ((rd_T73 l0 x3_1).f0) false _ A6.out).mono ?_
       rintro e w' ⟨rfl, ⟨nd, rfl⟩⟩
       refine ⟨_, rfl, ?_⟩
       refine hK.out _ _ ⟨bc_ BK243 0, bc_ BK243 1, bc_ BK243 2, bc_ BK243 3, bc_ BK243 4, bc_ BK243 5, bc_ BK243 6, bc_ BK243 7⟩ (fun hHeld => ?_)
       clear hK K
       refine n_ ?_
       refine p_ (i := 8) (N := some 23) mk9_9 ?_
       refine p_ (i := 9) (N := some 24) mk9_10 ?_
       refine p_ (i := 10) (N := some 25) mk9_11 ?_
       refine u_ (i := 11) (N := some 26) mk9_12 ?_
       refine u_ (i := 12) (N := some 27) mk9_13 ?_
       refine u_ (i := 13) (N := some 28) mk9_14 ?_
       refine u_ (i := 14) (N := some 29) mk9_15 ?_
       refine p_ (i := 15) (N := some 30) mk9_16 ?_
       refine p_ (i := 16) (N := some 31) mk9_17 ?_
       refine u_ (i := 17) (N := some 32) mk9_18 ?_
       refine u_ (i := 18) (N := some 33) mk9_19 ?_
       refine u_ (i := 19) (N := some 34) mk9_20 ?_
       refine u_ (i := 20) (N := some 35) mk9_21 ?_
       refine p_ (i := 21) (N := some 36) mk9_22 ?_
       refine p_ (i := 22) (N := some 37) mk9_23 ?_
       refine u_ (i := 23) (N := some 38) mk9_24 ?_
       refine u_ (i := 24) (N := some 39) mk9_52 ?_
       refine u_ (i := 25) (N := some 40) mk9_26 ?_
       refine u_ (i := 26) (N := some 41) mk9_27 ?_
       refine u_ (i := 27) (N := some 42) mk9_28 ?_
       refine u_ (i := 28) (N := some 43) mk9_29 ?_
       refine u_ (i := 29) (N := some 44) mk9_30 ?_
       refine u_ (i := 30) (N := some 45) mk9_31 ?_
       refine u_ (i := 31) (N := some 46) mk9_32 ?_
       refine u_ (i := 32) (N := some 47) mk9_33 ?_
       refine p_ (i := 33) (N := some 48) mk9_34 ?_
       refine p_ (i := 34) (N := some 49) mk9_35 ?_
       refine u_ (i := 35) (N := some 50) mk9_36 ?_
       refine u_ (i := 36) (N := some 51) mk9_37 ?_
       refine u_ (i := 37) (N := some 52) mk9_38 ?_
       refine u_ (i := 38) (N := some 53) mk9_39 ?_
       refine u_ (i := 39) (N := some 54) mk9_40 ?_
       refine u_ (i := 40) (N := some 55) mk9_41 ?_
       refine u_ (i := 41) (N := some 56) mk9_42 ?_
       refine u_ (i := 42) (N := some 57) mk9_43 ?_
       refine u_ (i := 43) (N := some 58) mk9_51 ?_
       refine u_ (i := 44) (N := some 59) mk9_45 ?_
       refine u_ (i := 45) (N := some 60) mk9_46 ?_
       refine u_ (i := 46) (N := some 61) mk9_47 ?_
       refine u_ (i := 47) (N := some 62) mk9_48 ?_
       refine u_ (i := 48) (N := some 63) mk9_49 ?_
       refine p_ (i := 49) (N := some 64) mk9_50 ?_
       refine done_ (done_of HT_.out z9_2) ?_
       try go_wp2
       go_ret
       exact ⟨z9_7, z9_1⟩
     ·
      replace c5 := Bool.eq_false_iff.mpr c5
      subst c5
      rw [if_neg (show ¬ (false = true) by decide)] at H
      obtain rfl := Option.some.inj H
      have p242 : 0 ≤ (x3_1 : Int) := of_decide_eq_true z9_6
      have q242 : x3_1 < (l0.length : Int) := of_decide_eq_true z9_6
      obtain ⟨ad242, e242, hx242_0, hx242_1, hx242_2, hx242_3, hx242_4, hx242_5, hx242_6, hx242_7⟩ := at_T73 HR0.out x3_1 p242 q242
      cases e242
      replace hx242_0 := cb_ HB hx242_0
      replace hx242_1 := cb_ HB hx242_1
      replace hx242_2 := cb_ HB hx242_2
      replace hx242_3 := cb_ HB hx242_3
      replace hx242_4 := cb_ HB hx242_4
      replace hx242_5 := cb_ HB hx242_5
      replace hx242_6 := cb_ HB hx242_6
      replace hx242_7 := cb_ HB hx242_7
      replace p242 := eq_true p242
      replace q242 := eq_true q242
      try go_wp2_with (first | ((with_reducible refine gate_dst (N := 4) rfl ?_); refine box_event ?hg (N := 4) ?hd (cs := #[.string (⟨#[]⟩ : ByteArray), .int .i64 0, .int .i64 0, .int .i64 0, .int .i64 0, .int .i64 0, .int .i64 0, .bool false]) (t := 73) ?hr ?_; (case hd => rfl); (case hg => rfl); (case hr => first | (go_simp; done) | (go_simp; rfl)); intro gb243 hg w85 hbox hb; have BK243 := Aside0.mk (hbox); have GW243 := gw_ w z9_3 hg; have GE243 := gw_ w z9_3 hg; replace HB := Aside0.mk (below_step z9_3 hb); clear hb hbox hg; obtain ⟨hcz86_0, hcz86_1, hcz86_2, hcz86_3, hcz86_4, hcz86_5, hcz86_6, hcz86_7, hfz86_0, hfz86_1, hfz86_2, hfz86_3, hfz86_4, hfz86_5, hfz86_6, hfz86_7⟩ := bc8 BK243.out))
      have n0_ : Aside0 (((((((((w85.setCell ⟨gb243, 0, none⟩ (.string ((rd_T73 l0 x3_1).f0))).setCell ⟨gb243, 1, none⟩ (.int .i64 ((rd_T73 l0 x3_1).f1.f0))).setCell ⟨gb243, 2, none⟩ (.int .i64 ((rd_T73 l0 x3_1).f1.f1))).setCell ⟨gb243, 3, none⟩ (.int .i64 ((rd_T73 l0 x3_1).f2))).setCell ⟨gb243, 4, none⟩ (.int .i64 ((rd_T73 l0 x3_1).f3.f0))).setCell ⟨gb243, 5, none⟩ (.int .i64 ((rd_T73 l0 x3_1).f3.f1))).setCell ⟨gb243, 6, none⟩ (.int .i64 ((rd_T73 l0 x3_1).f4))).setCell ⟨gb243, 7, none⟩ (.bool ((rd_T73 l0 x3_1).f5))).heap[gb243]? = some (.cells #[.string ((rd_T73 l0 x3_1).f0), .int .i64 ((rd_T73 l0 x3_1).f1.f0), .int .i64 ((rd_T73 l0 x3_1).f1.f1), .int .i64 ((rd_T73 l0 x3_1).f2), .int .i64 ((rd_T73 l0 x3_1).f3.f0), .int .i64 ((rd_T73 l0 x3_1).f3.f1), .int .i64 ((rd_T73 l0 x3_1).f4), .bool ((rd_T73 l0 x3_1).f5)] 73 (0, 0))) := ⟨z9_0⟩
      have n1_ : Aside0 (Below w.heap.size w ((((((((w85.setCell ⟨gb243, 0, none⟩ (.string ((rd_T73 l0 x3_1).f0))).setCell ⟨gb243, 1, none⟩ (.int .i64 ((rd_T73 l0 x3_1).f1.f0))).setCell ⟨gb243, 2, none⟩ (.int .i64 ((rd_T73 l0 x3_1).f1.f1))).setCell ⟨gb243, 3, none⟩ (.int .i64 ((rd_T73 l0 x3_1).f2))).setCell ⟨gb243, 4, none⟩ (.int .i64 ((rd_T73 l0 x3_1).f3.f0))).setCell ⟨gb243, 5, none⟩ (.int .i64 ((rd_T73 l0 x3_1).f3.f1))).setCell ⟨gb243, 6, none⟩ (.int .i64 ((rd_T73 l0 x3_1).f4))).setCell ⟨gb243, 7, none⟩ (.bool ((rd_T73 l0 x3_1).f5)))) := ⟨z9_1⟩
      (try clear BK243)
      (try clear HB)
      generalize ((((((((w85.setCell ⟨gb243, 0, none⟩ (.string ((rd_T73 l0 x3_1).f0))).setCell ⟨gb243, 1, none⟩ (.int .i64 ((rd_T73 l0 x3_1).f1.f0))).setCell ⟨gb243, 2, none⟩ (.int .i64 ((rd_T73 l0 x3_1).f1.f1))).setCell ⟨gb243, 3, none⟩ (.int .i64 ((rd_T73 l0 x3_1).f2))).setCell ⟨gb243, 4, none⟩ (.int .i64 ((rd_T73 l0 x3_1).f3.f0))).setCell ⟨gb243, 5, none⟩ (.int .i64 ((rd_T73 l0 x3_1).f3.f1))).setCell ⟨gb243, 6, none⟩ (.int .i64 ((rd_T73 l0 x3_1).f4))).setCell ⟨gb243, 7, none⟩ (.bool ((rd_T73 l0 x3_1).f5))) = w87 at n0_ n1_ ⊢
      have BK243 := n0_
      have HB := n1_
      clear n0_ n1_
      replace BK243 := Aside0.mk (blk_drew BK243.out)
      replace HB := Aside0.mk (below_drew1 HB.out)
      refine start_ (n := 50) (S := fun w' => w'.cell? ⟨gb243, 0, none⟩ = some (.string ((rd_T73 l0 x3_1).f0)) ∧ w'.cell? ⟨gb243, 1, none⟩ = some (.int .i64 ((rd_T73 l0 x3_1).f1.f0)) ∧ w'.cell? ⟨gb243, 2, none⟩ = some (.int .i64 ((rd_T73 l0 x3_1).f1.f1)) ∧ w'.cell? ⟨gb243, 3, none⟩ = some (.int .i64 ((rd_T73 l0 x3_1).f2)) ∧ w'.cell? ⟨gb243, 4, none⟩ = some (.int .i64 ((rd_T73 l0 x3_1).f3.f0)) ∧ w'.cell? ⟨gb243, 5, none⟩ = some (.int .i64 ((rd_T73 l0 x3_1).f3.f1)) ∧ w'.cell? ⟨gb243, 6, none⟩ = some (.int .i64 ((rd_T73 l0 x3_1).f4)) ∧ w'.cell? ⟨gb243, 7, none⟩ = some (.bool ((rd_T73 l0 x3_1).f5))) (ds := []) mk9_0 z9_2 rfl rfl ⟨bc_ BK243 0, bc_ BK243 1, bc_ BK243 2, bc_ BK243 3, bc_ BK243 4, bc_ BK243 5, bc_ BK243 6, bc_ BK243 7⟩ (fun hHeld => ?_); refine with_tabW spec_l06Cells.tab5 spec_l06Cells.bits5 (fun HT_ HW_ => ?_)
      generalize w87.drew = w88 at BK243 HB hHeld ⊢
      refine p_ (i := 0) (N := some 15) mk9_1 ?_
      refine t_ (i := 1) (N := some 16) mk9_2 hHeld ?_ (hv := by rintro w' ⟨s0, s1, s2, s3, s4, s5, s6, s7⟩; go_simp; with_reducible rfl)
      refine o_ (i := 2) (N := some 17) mk9_3 (fun K hK => ?_)
      refine goes_ Try.func104 z9_2 rfl #[.agg #[.int .i64 ((rd_T73 l0 x3_1).f1.f0), .int .i64 ((rd_T73 l0 x3_1).f1.f1)]] (by rfl) rfl rfl z9_4 ?_
      with_reducible refine (spec_DotOk.calls ((rd_T73 l0 x3_1).f1.f0) ((rd_T73 l0 x3_1).f1.f1) false _ A4.out).mono ?_
      rintro e w89 ⟨rfl, hb⟩
      refine ⟨_, rfl, ?_⟩
      replace BK243 := Aside0.mk (blk_below (g := gb243) (o := .cells #[.string ((rd_T73 l0 x3_1).f0), .int .i64 ((rd_T73 l0 x3_1).f1.f0), .int .i64 ((rd_T73 l0 x3_1).f1.f1), .int .i64 ((rd_T73 l0 x3_1).f2), .int .i64 ((rd_T73 l0 x3_1).f3.f0), .int .i64 ((rd_T73 l0 x3_1).f3.f1), .int .i64 ((rd_T73 l0 x3_1).f4), .bool ((rd_T73 l0 x3_1).f5)] 73 (0, 0)) z9_5 hb)
      replace HB := Aside0.mk (below_step z9_1 hb)
      (try clear hb)
      (try clear hb2)
      (try clear hk)
      (try clear hi)
      refine hK.out _ _ ⟨bc_ BK243 0, bc_ BK243 1, bc_ BK243 2, bc_ BK243 3, bc_ BK243 4, bc_ BK243 5, bc_ BK243 6, bc_ BK243 7⟩ (fun hHeld => ?_)
      clear hK K
      refine n_ ?_
      refine p_ (i := 3) (N := some 18) mk9_4 ?_
      refine p_ (i := 4) (N := some 19) mk9_5 ?_
      refine u_ (i := 5) (N := some 20) mk9_6 ?_
      refine u_ (i := 6) (N := some 21) mk9_7 ?_
      refine u_ (i := 7) (N := some 22) mk9_8 ?_
      refine u_ (i := 8) (N := some 23) mk9_9 ?_
      refine p_ (i := 9) (N := some 24) mk9_10 ?_
      refine p_ (i := 10) (N := some 25) mk9_11 ?_
      refine u_ (i := 11) (N := some 26) mk9_12 ?_
      refine u_ (i := 12) (N := some 27) mk9_13 ?_
      refine u_ (i := 13) (N := some 28) mk9_14 ?_
      refine u_ (i := 14) (N := some 29) mk9_15 ?_
      refine p_ (i := 15) (N := some 30) mk9_16 ?_
      refine p_ (i := 16) (N := some 31) mk9_17 ?_
      refine u_ (i := 17) (N := some 32) mk9_18 ?_
      refine u_ (i := 18) (N := some 33) mk9_19 ?_
      refine u_ (i := 19) (N := some 34) mk9_20 ?_
      refine u_ (i := 20) (N := some 35) mk9_21 ?_
      refine p_ (i := 21) (N := some 36) mk9_22 ?_
      refine p_ (i := 22) (N := some 37) mk9_23 ?_
      refine u_ (i := 23) (N := some 38) mk9_24 ?_
      refine u_ (i := 24) (N := some 39) mk9_52 ?_
      refine u_ (i := 25) (N := some 40) mk9_26 ?_
      refine u_ (i := 26) (N := some 41) mk9_27 ?_
      refine u_ (i := 27) (N := some 42) mk9_28 ?_
      refine u_ (i := 28) (N := some 43) mk9_29 ?_
      refine u_ (i := 29) (N := some 44) mk9_30 ?_
      refine u_ (i := 30) (N := some 45) mk9_31 ?_
      refine u_ (i := 31) (N := some 46) mk9_32 ?_
      refine u_ (i := 32) (N := some 47) mk9_33 ?_
      refine p_ (i := 33) (N := some 48) mk9_34 ?_
      refine p_ (i := 34) (N := some 49) mk9_35 ?_
      refine u_ (i := 35) (N := some 50) mk9_36 ?_
      refine u_ (i := 36) (N := some 51) mk9_37 ?_
      refine u_ (i := 37) (N := some 52) mk9_38 ?_
      refine u_ (i := 38) (N := some 53) mk9_39 ?_
      refine u_ (i := 39) (N := some 54) mk9_40 ?_
      refine u_ (i := 40) (N := some 55) mk9_41 ?_
      refine u_ (i := 41) (N := some 56) mk9_42 ?_
      refine u_ (i := 42) (N := some 57) mk9_43 ?_
      refine u_ (i := 43) (N := some 58) mk9_51 ?_
      refine u_ (i := 44) (N := some 59) mk9_45 ?_
      refine u_ (i := 45) (N := some 60) mk9_46 ?_
      refine u_ (i := 46) (N := some 61) mk9_47 ?_
      refine u_ (i := 47) (N := some 62) mk9_48 ?_
      refine u_ (i := 48) (N := some 63) mk9_49 ?_
      refine p_ (i := 49) (N := some 64) mk9_50 ?_
      refine done_ (done_of HT_.out z9_2) ?_
      try go_wp2
      go_ret
      exact ⟨z9_7, z9_1⟩
    ·
     rw [if_neg c3] at H
     exact absurd H (by simp)
   ·
    rw [if_neg c2] at H
    have c2b0 : decide (x3_1 < (l0.length : Int)) = false := decide_eq_false c2
    clear c2
    obtain rfl := Option.some.inj H
    go_wp2
    go_ret
    exact ⟨z9_7, z9_3⟩
end Go.Proofs.Ytbanogkoaplcdaa.QSOk
