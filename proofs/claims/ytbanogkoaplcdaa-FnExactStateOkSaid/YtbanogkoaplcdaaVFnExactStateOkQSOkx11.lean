/- What the functions behind SOk compute, and that the program's calls come to just that. Written by a program of this session on the base of the kit's print. No condition. -/
import Derived.Test.YtbanogkoaplcdaaVFnExactStateOkShort
import Derived.Test.YtbanogkoaplcdaaVFnExactStateOkQSOkx0
import Derived.Test.YtbanogkoaplcdaaVFnExactStateOkQSOkx1
import Derived.Test.YtbanogkoaplcdaaVFnExactStateOkQSOkx6
import Derived.Test.YtbanogkoaplcdaaVFnExactStateOkQSOkx7
import Derived.Test.YtbanogkoaplcdaaVFnExactStateOkQSOkx8
import Derived.Test.YtbanogkoaplcdaaVFnExactStateOkQSOkx9
import Derived.Test.YtbanogkoaplcdaaVFnExactStateOkQSOkx10
namespace Go.Proofs.Ytbanogkoaplcdaa.QSOk
open Go.RowKit Go.Proofs.Ytbanogkoaplcdaa.Short Go.Proofs.YtbanogkoaplcdaaW.PrintWords Go.Proofs.YtbanogkoaplcdaaW.PrintLast Go.Proofs.YtbanogkoaplcdaaW.PrintMore
attribute [local go_sem] max2_int min2_int max_two min_two max_three min_three max_four min_four   -- for this text's walks alone
set_option linter.unusedVariables false
set_option linter.unusedSimpArgs false
attribute [local go_sem high] eqA38
theorem z11_13 {P : Prop} (h : P := by repeat (first | (with_reducible first | exact HB.out | apply below_alloc | apply pw_below_drewN | apply below_drew1) | exact HB.out)) : P := h
theorem z11_12 {P : Prop} (h : P := by (with_reducible repeat (first | refine blk_drewN ?_ _ | refine blk_drew ?_ | refine blk_alloc ?_ _)); exact BK265.out) : P := h
theorem z11_11 {P : Prop} (h : P := by first | rfl | (simp; done) | (simp [*]; done)) : P := h
theorem z11_10 {P : Prop} (h : P := by first | rfl | (simp [errW_none, errW_some] <;> rfl) | (simp [*, errW_none, errW_some] <;> rfl)) : P := h
theorem z11_9 {P : Prop} (h : P := by first | (with_reducible assumption) | assumption) : P := h
theorem z11_8 {P : Prop} (h : P := by kernel_rfl) : P := h
theorem z11_7 {P : Prop} (h : P := by first | rfl | (simp only [List.map_toArray, List.map_cons, List.map_nil]; first | done | rfl)) : P := h
theorem z11_6 {P : Prop} (h : P := by intro w'; go_simp; with_reducible rfl) : P := h
theorem z11_5 {P : Prop} (h : P := by repeat (first | (with_reducible first | exact HB.out | apply below_alloc | apply pw_below_drewN | apply below_drew1 | refine below_set ?_ GE257.out | refine below_set ?_ GE265.out) | exact HB.out)) : P := h
theorem z11_4 {P : Prop} (h : P := by (with_reducible repeat (first | refine blk_drewN ?_ _ | refine blk_drew ?_ | refine blk_alloc ?_ _)); exact BK257.out) : P := h
theorem z11_3 {P : Prop} (h : P := by (with_reducible repeat (first | refine blk_drewN ?_ _ | refine blk_drew ?_ | refine blk_alloc ?_ _)); refine blk_far ?_ NB257_265.out _; (with_reducible repeat (first | refine blk_drewN ?_ _ | refine blk_drew ?_ | refine blk_alloc ?_ _)); refine blk_far ?_ NB257_265.out _; (with_reducible repeat (first | refine blk_drewN ?_ _ | refine blk_drew ?_ | refine blk_alloc ?_ _)); refine blk_far ?_ NB257_265.out _; (with_reducible repeat (first | refine blk_drewN ?_ _ | refine blk_drew ?_ | refine blk_alloc ?_ _)); refine blk_far ?_ NB257_265.out _; (with_reducible repeat (first | refine blk_drewN ?_ _ | refine blk_drew ?_ | refine blk_alloc ?_ _)); refine blk_far ?_ NB257_265.out _; (with_reducible repeat (first | refine blk_drewN ?_ _ | refine blk_drew ?_ | refine blk_alloc ?_ _)); refine blk_far ?_ NB257_265.out _; (with_reducible repeat (first | refine blk_drewN ?_ _ | refine blk_drew ?_ | refine blk_alloc ?_ _)); refine blk_far ?_ NB257_265.out _; (with_reducible repeat (first | refine blk_drewN ?_ _ | refine blk_drew ?_ | refine blk_alloc ?_ _)); refine blk_far ?_ NB257_265.out _; (with_reducible repeat (first | refine blk_drewN ?_ _ | refine blk_drew ?_ | refine blk_alloc ?_ _)); exact BK257.out) : P := h
theorem z11_2 {P : Prop} (h : P := by repeat (first | (with_reducible first | exact HB.out | apply below_alloc | apply pw_below_drewN | apply below_drew1 | refine below_set ?_ GE257.out) | exact HB.out)) : P := h
theorem z11_1 {P : Prop} (h : P := by simp only [Act.put, List.setIfInBounds_toArray, List.set_cons_zero, List.set_cons_succ, i64_w, i32_w]; rfl) : P := h
theorem z11_0 {P : Prop} (h : P := by (with_reducible repeat (first | refine blk_drewN ?_ _ | refine blk_drew ?_ | refine blk_alloc ?_ _)); refine blk_put (cs := #[.string ((rd_T73 l0_3 x4_3).f0), .int .i64 ((rd_T73 l0_3 x4_3).f1.f0), .int .i64 ((rd_T73 l0_3 x4_3).f1.f1), .int .i64 ((rd_T73 l0_3 x4_3).f2), .int .i64 ((rd_T73 l0_3 x4_3).f3.f0), .int .i64 ((rd_T73 l0_3 x4_3).f3.f1), .int .i64 ((rd_T73 l0_3 x4_3).f4), .bool false]) ?_ 7 _ rfl; (with_reducible repeat (first | refine blk_drewN ?_ _ | refine blk_drew ?_ | refine blk_alloc ?_ _)); refine blk_put (cs := #[.string ((rd_T73 l0_3 x4_3).f0), .int .i64 ((rd_T73 l0_3 x4_3).f1.f0), .int .i64 ((rd_T73 l0_3 x4_3).f1.f1), .int .i64 ((rd_T73 l0_3 x4_3).f2), .int .i64 ((rd_T73 l0_3 x4_3).f3.f0), .int .i64 ((rd_T73 l0_3 x4_3).f3.f1), .int .i64 0, .bool false]) ?_ 6 _ rfl; (with_reducible repeat (first | refine blk_drewN ?_ _ | refine blk_drew ?_ | refine blk_alloc ?_ _)); refine blk_put (cs := #[.string ((rd_T73 l0_3 x4_3).f0), .int .i64 ((rd_T73 l0_3 x4_3).f1.f0), .int .i64 ((rd_T73 l0_3 x4_3).f1.f1), .int .i64 ((rd_T73 l0_3 x4_3).f2), .int .i64 ((rd_T73 l0_3 x4_3).f3.f0), .int .i64 0, .int .i64 0, .bool false]) ?_ 5 _ rfl; (with_reducible repeat (first | refine blk_drewN ?_ _ | refine blk_drew ?_ | refine blk_alloc ?_ _)); refine blk_put (cs := #[.string ((rd_T73 l0_3 x4_3).f0), .int .i64 ((rd_T73 l0_3 x4_3).f1.f0), .int .i64 ((rd_T73 l0_3 x4_3).f1.f1), .int .i64 ((rd_T73 l0_3 x4_3).f2), .int .i64 0, .int .i64 0, .int .i64 0, .bool false]) ?_ 4 _ rfl; (with_reducible repeat (first | refine blk_drewN ?_ _ | refine blk_drew ?_ | refine blk_alloc ?_ _)); refine blk_put (cs := #[.string ((rd_T73 l0_3 x4_3).f0), .int .i64 ((rd_T73 l0_3 x4_3).f1.f0), .int .i64 ((rd_T73 l0_3 x4_3).f1.f1), .int .i64 0, .int .i64 0, .int .i64 0, .int .i64 0, .bool false]) ?_ 3 _ rfl; (with_reducible repeat (first | refine blk_drewN ?_ _ | refine blk_drew ?_ | refine blk_alloc ?_ _)); refine blk_put (cs := #[.string ((rd_T73 l0_3 x4_3).f0), .int .i64 ((rd_T73 l0_3 x4_3).f1.f0), .int .i64 0, .int .i64 0, .int .i64 0, .int .i64 0, .int .i64 0, .bool false]) ?_ 2 _ rfl; (with_reducible repeat (first | refine blk_drewN ?_ _ | refine blk_drew ?_ | refine blk_alloc ?_ _)); refine blk_put (cs := #[.string ((rd_T73 l0_3 x4_3).f0), .int .i64 0, .int .i64 0, .int .i64 0, .int .i64 0, .int .i64 0, .int .i64 0, .bool false]) ?_ 1 _ rfl; (with_reducible repeat (first | refine blk_drewN ?_ _ | refine blk_drew ?_ | refine blk_alloc ?_ _)); refine blk_put (cs := #[.string (⟨#[]⟩ : ByteArray), .int .i64 0, .int .i64 0, .int .i64 0, .int .i64 0, .int .i64 0, .int .i64 0, .bool false]) ?_ 0 _ rfl; (with_reducible repeat (first | refine blk_drewN ?_ _ | refine blk_drew ?_ | refine blk_alloc ?_ _)); exact BK265.out) : P := h
abbrev mk11_0 : Array Bool := #[false, false, false, false, false, false, false, false, false, false]
abbrev mk11_1 : Array Bool := #[true, false, false, false, false, false, false, false, false, false]
abbrev mk11_2 : Array Bool := #[true, false, true, false, false, false, false, false, false, false]
abbrev mk11_3 : Array Bool := #[true, false, true, false, true, false, false, false, false, false]
abbrev mk11_4 : Array Bool := #[true, true, true, false, true, false, false, false, false, false]
abbrev mk11_5 : Array Bool := #[true, true, true, true, true, false, false, false, false, false]
abbrev mk11_6 : Array Bool := #[true, true, true, true, true, true, false, false, false, false]
abbrev mk11_7 : Array Bool := #[true, true, true, true, true, true, true, false, false, false]
abbrev mk11_8 : Array Bool := #[true, true, true, true, true, true, true, true, false, false]
abbrev mk11_9 : Array Bool := #[true, true, true, true, true, true, true, true, true, false]
abbrev mk11_10 : Array Bool := #[true, true, true, true, true, true, true, true, true, true]
abbrev mk11_11 : Array Bool := #[false, false, false, false, false, false, false, false, false, false, false, false, false, false, false, false, false, false, false, false, false, false, false, false]
abbrev mk11_12 : Array Bool := #[true, false, false, false, false, false, false, false, false, false, false, false, false, false, false, false, false, false, false, false, false, false, false, false]
abbrev mk11_13 : Array Bool := #[true, true, false, false, false, false, false, false, false, false, false, false, false, false, false, false, false, false, false, false, false, false, false, false]
abbrev mk11_14 : Array Bool := #[true, true, true, false, false, false, false, false, false, false, false, false, false, false, false, false, false, false, false, false, false, false, false, false]
abbrev mk11_15 : Array Bool := #[true, true, true, true, false, false, false, false, false, false, false, false, false, false, false, false, false, false, false, false, false, false, false, false]
abbrev mk11_16 : Array Bool := #[true, true, true, true, true, false, false, false, false, false, false, false, false, false, false, false, false, false, false, false, false, false, false, false]
abbrev mk11_17 : Array Bool := #[true, true, true, true, true, true, false, false, false, false, false, false, false, false, false, false, false, false, false, false, false, false, false, false]
abbrev mk11_18 : Array Bool := #[true, true, true, true, true, true, true, false, false, false, false, false, false, false, false, false, false, false, false, false, false, false, false, false]
abbrev mk11_19 : Array Bool := #[true, true, true, true, true, true, true, true, false, false, false, false, false, false, false, false, false, false, false, false, false, false, false, false]
abbrev mk11_20 : Array Bool := #[true, true, true, true, true, true, true, true, true, false, false, false, false, false, false, false, false, false, false, false, false, false, false, false]
abbrev mk11_21 : Array Bool := #[true, true, true, true, true, true, true, true, true, true, false, false, false, false, false, false, false, false, false, false, false, false, false, false]
abbrev mk11_22 : Array Bool := #[true, true, true, true, true, true, true, true, true, true, true, false, false, false, false, false, false, false, false, false, false, false, false, false]
abbrev mk11_23 : Array Bool := #[true, true, true, true, true, true, true, true, true, true, true, true, false, false, false, false, false, false, false, false, false, false, false, false]
abbrev mk11_24 : Array Bool := #[true, true, true, true, true, true, true, true, true, true, true, true, true, false, false, false, false, false, false, false, false, false, false, false]
abbrev mk11_25 : Array Bool := #[true, true, true, true, true, true, true, true, true, true, true, true, true, true, false, false, false, false, false, false, false, false, false, false]
abbrev mk11_26 : Array Bool := #[true, true, true, true, true, true, true, true, true, true, true, true, true, true, true, false, false, false, false, false, false, false, false, false]
abbrev mk11_27 : Array Bool := #[true, true, true, true, true, true, true, true, true, true, true, true, true, true, true, true, false, false, false, false, false, false, false, false]
abbrev mk11_28 : Array Bool := #[true, true, true, true, true, true, true, true, true, true, true, true, true, true, true, true, true, false, false, false, false, false, false, false]
abbrev mk11_29 : Array Bool := #[true, true, true, true, true, true, true, true, true, true, true, true, true, true, true, true, true, true, false, false, false, false, false, false]
abbrev mk11_30 : Array Bool := #[true, true, true, true, true, true, true, true, true, true, true, true, true, true, true, true, true, true, true, false, false, false, false, false]
abbrev mk11_31 : Array Bool := #[true, true, true, true, true, true, true, true, true, true, true, true, true, true, true, true, true, true, true, true, false, false, false, false]
abbrev mk11_32 : Array Bool := #[true, true, true, true, true, true, true, true, true, true, true, true, true, true, true, true, true, true, true, true, true, false, false, false]
abbrev mk11_33 : Array Bool := #[true, true, true, true, true, true, true, true, true, true, true, true, true, true, true, true, true, true, true, true, true, true, false, false]
abbrev mk11_34 : Array Bool := #[true, true, true, true, true, true, true, true, true, true, true, true, true, true, true, true, true, true, true, true, true, true, true, false]
abbrev mk11_35 : Array Bool := #[true, true, true, true, true, true, true, true, true, true, true, true, true, true, true, true, true, true, true, true, true, true, true, true]
abbrev mk11_36 : Array Bool := #[true, true, true, true, false, true, false, false, false, false, false, false, false, false, false, false, false, false, false, false, false, false, false, false]
abbrev mk11_37 : Array Bool := #[true, true, true, true, false, true, false, false, false, true, false, false, false, false, false, false, false, false, false, false, false, false, false, false]
abbrev mk11_38 : Array Bool := #[true, true, true, true, true, true, false, false, false, true, false, false, false, false, false, false, false, false, false, false, false, false, false, false]
abbrev mk11_39 : Array Bool := #[true, true, true, true, true, true, true, false, false, true, false, false, false, false, false, false, false, false, false, false, false, false, false, false]
abbrev mk11_40 : Array Bool := #[true, true, true, true, true, true, true, true, false, true, false, false, false, false, false, false, false, false, false, false, false, false, false, false]
abbrev mk11_41 : Array Bool := #[true, true, true, true, true, true, true, true, true, true, true, true, true, true, true, false, true, false, false, false, false, false, false, false]
abbrev mk11_42 : Array Bool := #[true, true, true, true, true, true, true, true, true, true, true, true, true, true, true, false, true, false, false, false, true, false, false, false]
abbrev mk11_43 : Array Bool := #[true, true, true, true, true, true, true, true, true, true, true, true, true, true, true, true, true, false, false, false, true, false, false, false]
abbrev mk11_44 : Array Bool := #[true, true, true, true, true, true, true, true, true, true, true, true, true, true, true, true, true, true, false, false, true, false, false, false]
abbrev mk11_45 : Array Bool := #[true, true, true, true, true, true, true, true, true, true, true, true, true, true, true, true, true, true, true, false, true, false, false, false]
mutual
def spec_StateOk.j0 : Nat → Bool → List Int → List (S84) → List (S86) → List (S73) → Option (Bool)
  | 0, _, _, _, _, _ => none
  | k + 1, x28, x258000, x258001, x258002, x258003 => if x28 = true then (some false) else (spec_StateOk.l0 k 0 x258000 x258001 x258002 x258003)
def spec_StateOk.l0 : Nat → Int → List Int → List (S84) → List (S86) → List (S73) → Option (Bool)
  | 0, _, _, _, _, _ => none
  | k + 1, x3, x258000, x258001, x258002, x258003 => if x3 < (x258002.length : Int) then (if 0 ≤ x3 then ((spec_Knows.f k x258000 ((rd_T86 x258002 x3).f4.f0) ((rd_T86 x258002 x3).f4.f1)).bind fun t263 => (if t263 = true then (spec_StateOk.l0 k (wrap64 (x3 + 1)) x258000 x258001 x258002 x258003) else (some false))) else (none)) else (spec_StateOk.l1 k 0 x258000 x258001 x258002 x258003)
def spec_StateOk.l1 : Nat → Int → List Int → List (S84) → List (S86) → List (S73) → Option (Bool)
  | 0, _, _, _, _, _ => none
  | k + 1, x4, x258000, x258001, x258002, x258003 => if x4 < (x258003.length : Int) then (if 0 ≤ x4 then ((spec_Knows.f k x258000 ((rd_T73 x258003 x4).f1.f0) ((rd_T73 x258003 x4).f1.f1)).bind fun t266 => (if t266 = true then (if (((rd_T73 x258003 x4).f3.f0) == 0 && (((rd_T73 x258003 x4).f3.f1) == 0)) = true then (spec_StateOk.l1 k (wrap64 (x4 + 1)) x258000 x258001 x258002 x258003) else ((spec_CellAt.f k x258000 x258001 x258002 x258003 ((rd_T73 x258003 x4).f3.f0) ((rd_T73 x258003 x4).f3.f1)).bind fun t267 => (if t267 < 0 then (some false) else (if 0 ≤ t267 then (if t267 < (x258003.length : Int) then (if ((rd_T73 x258003 t267).f0).toList = ((rd_T73 x258003 x4).f0).toList then (if ((rd_T73 x258003 t267).f2) ≥ ((rd_T73 x258003 x4).f2) then (some false) else (spec_StateOk.l1 k (wrap64 (x4 + 1)) x258000 x258001 x258002 x258003)) else (some false)) else (none)) else (none))))) else (some false))) else (none)) else (some true)
end



def spec_StateOk.f (k : Nat) (l0_0 : List Int) (l0_1 : List (S84)) (l0_2 : List (S86)) (l0_3 : List (S73)) : Option (Bool) := (spec_KnowOk.f k l0_0).bind fun t258 => (if t258 = true then ((spec_l06Tallies.f k l0_1).bind fun t259 => (if t259 = true then ((spec_l06Lives.f k l0_2).bind fun t260 => (if t260 = true then ((spec_l06Cells.f k l0_3).bind fun t261 => (spec_StateOk.j0 k (!t261) l0_0 l0_1 l0_2 l0_3)) else (spec_StateOk.j0 k true l0_0 l0_1 l0_2 l0_3))) else (spec_StateOk.j0 k true l0_0 l0_1 l0_2 l0_3))) else (spec_StateOk.j0 k true l0_0 l0_1 l0_2 l0_3))
def spec_StateOk.T6 : Bool × List (List Nat × List Nat) := (true, [([], []), ([0], [0]), ([], []), ([2], [2]), ([], []), ([3, 4], [3, 4]), ([5], [5]), ([6], [6]), ([1, 7], [1, 7]), ([8], [8])])
def spec_StateOk.B6 : List Nat := [0, 1, 0, 4, 0, 28, 60, 124, 255, 511]
theorem spec_StateOk.tab6 : rtab .any (opsOf Try.f17 6) = spec_StateOk.T6 := by kernel_rfl
theorem spec_StateOk.bits6 : waitsOk spec_StateOk.T6.2 spec_StateOk.B6 = true := by kernel_rfl
def spec_StateOk.T16 : Bool × List (List Nat × List Nat) := (true, [([], []), ([0], [0]), ([1], [1]), ([2], [2]), ([3, 2], [2, 3]), ([2], [2]), ([4, 5, 2], [2, 4, 5]), ([6, 2], [2, 6]), ([7, 2], [2, 7]), ([2], [2]), ([9, 2], [2, 9]), ([8, 10, 2], [2, 8, 10]), ([2, 11], [2, 11]), ([12, 2], [12]), ([13], [13]), ([14, 13], [13, 14]), ([13], [13]), ([15, 16, 13], [13, 15, 16]), ([17, 13], [13, 17]), ([18, 13], [13, 18]), ([13], [13]), ([20, 13], [13, 20]), ([19, 21, 13], [13, 19, 21]), ([13, 22], [13, 22])])
def spec_StateOk.B16 : List Nat := [0, 1, 3, 7, 15, 7, 63, 127, 255, 7, 519, 2047, 4095, 8191, 16383, 32767, 16383, 131071, 262143, 524287, 16383, 1064959, 4194303, 8388607]
theorem spec_StateOk.tab16 : rtab .any (opsOf Try.f17 16) = spec_StateOk.T16 := by kernel_rfl
theorem spec_StateOk.bits16 : waitsOk spec_StateOk.T16.2 spec_StateOk.B16 = true := by kernel_rfl
set_option maxHeartbeats 8000000 in
set_option maxRecDepth 100000 in
theorem spec_StateOk.calls (k : Nat) (A0_0 : Option Addr) (c0_0 : Nat) (l0_0 : List Int) (A0_1 : Option Addr) (c0_1 : Nat) (l0_1 : List (S84)) (A0_2 : Option Addr) (c0_2 : Nat) (l0_2 : List (S86)) (A0_3 : Option Addr) (c0_3 : Nat) (l0_3 : List (S73)) (r : Bool) (w : World) (hr0_0 : Kd.C (Kd.int .i64) w A0_0 l0_0.length l0_0) (hc0_0 : l0_0.length ≤ c0_0) (hr0_1 : Kd.C k84 w A0_1 l0_1.length l0_1) (hc0_1 : l0_1.length ≤ c0_1) (hr0_2 : Kd.C k86 w A0_2 l0_2.length l0_2) (hc0_2 : l0_2.length ≤ c0_2) (hr0_3 : Kd.C k73 w A0_3 l0_3.length l0_3) (hc0_3 : l0_3.length ≤ c0_3) (h : spec_StateOk.f k l0_0 l0_1 l0_2 l0_3 = some r) :
  Calls Try.prog 17 #[.agg #[.slice A0_0 l0_0.length c0_0, .slice A0_1 l0_1.length c0_1, .slice A0_2 l0_2.length c0_2, .slice A0_3 l0_3.length c0_3]] w fun e w' => e = .returned (.bool r) ∧ Below w.heap.size w w' := by
 have hu36 := Try.underlying36
 have hu38 := Try.underlying38
 have hu73 := Try.underlying73
 have HR0_0 := Aside0.mk hr0_0
 have HC0_0 := Aside0.mk hc0_0
 clear hr0_0 hc0_0
 have HR0_1 := Aside0.mk hr0_1
 have HC0_1 := Aside0.mk hc0_1
 clear hr0_1 hc0_1
 have HR0_2 := Aside0.mk hr0_2
 have HC0_2 := Aside0.mk hc0_2
 clear hr0_2 hc0_2
 have HR0_3 := Aside0.mk hr0_3
 have HC0_3 := Aside0.mk hc0_3
 clear hr0_3 hc0_3
 have HB := Aside0.mk (Below.refl w.heap.size w)
 have H : ((spec_KnowOk.f k l0_0).bind fun t258 => (if t258 = true then ((spec_l06Tallies.f k l0_1).bind fun t259 => (if t259 = true then ((spec_l06Lives.f k l0_2).bind fun t260 => (if t260 = true then ((spec_l06Cells.f k l0_3).bind fun t261 => (spec_StateOk.j0 k (!t261) l0_0 l0_1 l0_2 l0_3)) else (spec_StateOk.j0 k true l0_0 l0_1 l0_2 l0_3))) else (spec_StateOk.j0 k true l0_0 l0_1 l0_2 l0_3))) else (spec_StateOk.j0 k true l0_0 l0_1 l0_2 l0_3))) = some r := h
 clear h
 have HC2 := Aside0.mk H
 clear H
 go_enter Try.func17, Try.ntmps17
 go_upto_region 1 with (first | ((with_reducible refine gate_dst (N := 1) rfl ?_); refine box_event ?hg (N := 1) ?hd (cs := #[.slice A0_0 l0_0.length c0_0, .slice A0_1 l0_1.length c0_1, .slice A0_2 l0_2.length c0_2, .slice A0_3 l0_3.length c0_3]) (t := 36) ?hr ?_; (case hd => rfl); (case hg => rfl); (case hr => first | (go_simp; done) | (go_simp; rfl)); intro gb257 hg w3 hbox hb; have BK257 := Aside0.mk (hbox); have GW257 := gw_ w z11_13 hg; have GE257 := gw_ w z11_13 hg; replace HB := Aside0.mk (below_step z11_13 hb); clear hb hbox hg))
 (try simp only [Act.put, List.setIfInBounds_toArray, List.set_cons_zero, List.set_cons_succ])
 go_cut [28] (fun v28 wc => ∃ (kq : Nat) (x28_1 : Bool), v28 = .bool x28_1 ∧ Aside0 (spec_StateOk.j0 kq x28_1 l0_0 l0_1 l0_2 l0_3 = some r) ∧ Aside0 (kq ≤ k) ∧ Aside0 (wc.heap[gb257]? = some (.cells #[(.slice A0_0 l0_0.length c0_0), (.slice A0_1 l0_1.length c0_1), (.slice A0_2 l0_2.length c0_2), (.slice A0_3 l0_3.length c0_3)] 36 (0, 0))) ∧ Aside0 (Below w.heap.size w wc))
 case first =>
  have H := HC2.out
  clear HC2
  replace H := Option.bind_eq_some_iff.mp H
  obtain ⟨t258, A40, H⟩ := H
  (try dsimp only at H)
  have A4 := Aside0.mk A40
  clear A40
  by_cases c5 : t258 = true
  ·
   subst c5
   rw [if_pos rfl] at H
   replace H := Option.bind_eq_some_iff.mp H
   obtain ⟨t259, A60, H⟩ := H
   (try dsimp only at H)
   have A6 := Aside0.mk A60
   clear A60
   by_cases c7 : t259 = true
   ·
    subst c7
    rw [if_pos rfl] at H
    replace H := Option.bind_eq_some_iff.mp H
    obtain ⟨t260, A80, H⟩ := H
    (try dsimp only at H)
    have A8 := Aside0.mk A80
    clear A80
    by_cases c9 : t260 = true
    ·
     subst c9
     rw [if_pos rfl] at H
     replace H := Option.bind_eq_some_iff.mp H
     obtain ⟨t261, A100, H⟩ := H
     (try dsimp only at H)
     have A10 := Aside0.mk A100
     clear A100
     have H' := Aside0.mk H
     clear H
     obtain ⟨hcz11_0, hcz11_1, hcz11_2, hcz11_3, hfz11_0, hfz11_1, hfz11_2, hfz11_3⟩ := bc4 BK257.out
     go_wp2_with (first | ((with_reducible refine gate_callee (f := 56) rfl ?_); refine goesL_ (some 9) rfl rfl Try.func56 z11_8 rfl #[.slice A0_0 l0_0.length c0_0] rfl z11_7 ?_; (with_reducible refine (spec_KnowOk.calls k _ _ l0_0 true _ ?side1 ?side2 A4.out).mono ?_); (case side1 => repeat (first | exact (Kd.C_below HR0_0.out HB.out) | (with_reducible refine Kd.C_alloc ?_ _) | (with_reducible refine Kd.C_drewN ?_ _) | (with_reducible refine Kd.C_drew ?_))); (case side2 => exact HC0_0.out); rintro e w' ⟨rfl, ⟨nd, rfl⟩⟩; refine ⟨_, rfl, ?_⟩) | (go_at_call 57; (with_reducible refine (spec_l06Tallies.calls k _ _ l0_1 true _ ?side1 ?side2 A6.out).mono ?_); (case side1 => repeat (first | exact (Kd.C_below HR0_1.out z11_2) | (with_reducible refine Kd.C_alloc ?_ _) | (with_reducible refine Kd.C_drewN ?_ _) | (with_reducible refine Kd.C_drew ?_))); (case side2 => exact HC0_1.out); rintro e w12 ⟨rfl, hb⟩; replace BK257 := Aside0.mk (blk_below (g := gb257) (o := .cells #[.slice A0_0 l0_0.length c0_0, .slice A0_1 l0_1.length c0_1, .slice A0_2 l0_2.length c0_2, .slice A0_3 l0_3.length c0_3] 36 (0, 0)) z11_4 hb); replace HB := Aside0.mk (below_step z11_2 hb); obtain ⟨hcz13_0, hcz13_1, hcz13_2, hcz13_3, hfz13_0, hfz13_1, hfz13_2, hfz13_3⟩ := bc4 BK257.out) | (go_at_call 58; (with_reducible refine (spec_l06Lives.calls k _ _ l0_2 true _ ?side1 ?side2 A8.out).mono ?_); (case side1 => repeat (first | exact (Kd.C_below HR0_2.out HB.out) | (with_reducible refine Kd.C_alloc ?_ _) | (with_reducible refine Kd.C_drewN ?_ _) | (with_reducible refine Kd.C_drew ?_))); (case side2 => exact HC0_2.out); rintro e w14 ⟨rfl, hb⟩; replace BK257 := Aside0.mk (blk_below (g := gb257) (o := .cells #[.slice A0_0 l0_0.length c0_0, .slice A0_1 l0_1.length c0_1, .slice A0_2 l0_2.length c0_2, .slice A0_3 l0_3.length c0_3] 36 (0, 0)) z11_4 hb); replace HB := Aside0.mk (below_step z11_2 hb); obtain ⟨hcz15_0, hcz15_1, hcz15_2, hcz15_3, hfz15_0, hfz15_1, hfz15_2, hfz15_3⟩ := bc4 BK257.out) | (go_at_call 59; (with_reducible refine (spec_l06Cells.calls k _ _ l0_3 t261 _ ?side1 ?side2 A10.out).mono ?_); (case side1 => repeat (first | exact (Kd.C_below HR0_3.out HB.out) | (with_reducible refine Kd.C_alloc ?_ _) | (with_reducible refine Kd.C_drewN ?_ _) | (with_reducible refine Kd.C_drew ?_))); (case side2 => exact HC0_3.out); rintro e w16 ⟨rfl, hb⟩; replace BK257 := Aside0.mk (blk_below (g := gb257) (o := .cells #[.slice A0_0 l0_0.length c0_0, .slice A0_1 l0_1.length c0_1, .slice A0_2 l0_2.length c0_2, .slice A0_3 l0_3.length c0_3] 36 (0, 0)) z11_4 hb); replace HB := Aside0.mk (below_step z11_2 hb)))
     go_meet
     case rel => exact ⟨_, (!t261), z11_11, H', ⟨by first | omega | exact Nat.le_refl _⟩, ⟨z11_4⟩, ⟨z11_2⟩⟩
    ·
     replace c9 := Bool.eq_false_iff.mpr c9
     subst c9
     rw [if_neg (show ¬ (false = true) by decide)] at H
     have H' := Aside0.mk H
     clear H
     obtain ⟨hcz17_0, hcz17_1, hcz17_2, hcz17_3, hfz17_0, hfz17_1, hfz17_2, hfz17_3⟩ := bc4 BK257.out
     go_wp2_with (first | ((with_reducible refine gate_callee (f := 56) rfl ?_); refine goesL_ (some 9) rfl rfl Try.func56 z11_8 rfl #[.slice A0_0 l0_0.length c0_0] rfl z11_7 ?_; (with_reducible refine (spec_KnowOk.calls k _ _ l0_0 true _ ?side1 ?side2 A4.out).mono ?_); (case side1 => repeat (first | exact (Kd.C_below HR0_0.out HB.out) | (with_reducible refine Kd.C_alloc ?_ _) | (with_reducible refine Kd.C_drewN ?_ _) | (with_reducible refine Kd.C_drew ?_))); (case side2 => exact HC0_0.out); rintro e w' ⟨rfl, ⟨nd, rfl⟩⟩; refine ⟨_, rfl, ?_⟩) | (go_at_call 57; (with_reducible refine (spec_l06Tallies.calls k _ _ l0_1 true _ ?side1 ?side2 A6.out).mono ?_); (case side1 => repeat (first | exact (Kd.C_below HR0_1.out z11_2) | (with_reducible refine Kd.C_alloc ?_ _) | (with_reducible refine Kd.C_drewN ?_ _) | (with_reducible refine Kd.C_drew ?_))); (case side2 => exact HC0_1.out); rintro e w18 ⟨rfl, hb⟩; replace BK257 := Aside0.mk (blk_below (g := gb257) (o := .cells #[.slice A0_0 l0_0.length c0_0, .slice A0_1 l0_1.length c0_1, .slice A0_2 l0_2.length c0_2, .slice A0_3 l0_3.length c0_3] 36 (0, 0)) z11_4 hb); replace HB := Aside0.mk (below_step z11_2 hb); obtain ⟨hcz19_0, hcz19_1, hcz19_2, hcz19_3, hfz19_0, hfz19_1, hfz19_2, hfz19_3⟩ := bc4 BK257.out) | (go_at_call 58; (with_reducible refine (spec_l06Lives.calls k _ _ l0_2 false _ ?side1 ?side2 A8.out).mono ?_); (case side1 => repeat (first | exact (Kd.C_below HR0_2.out HB.out) | (with_reducible refine Kd.C_alloc ?_ _) | (with_reducible refine Kd.C_drewN ?_ _) | (with_reducible refine Kd.C_drew ?_))); (case side2 => exact HC0_2.out); rintro e w20 ⟨rfl, hb⟩; replace BK257 := Aside0.mk (blk_below (g := gb257) (o := .cells #[.slice A0_0 l0_0.length c0_0, .slice A0_1 l0_1.length c0_1, .slice A0_2 l0_2.length c0_2, .slice A0_3 l0_3.length c0_3] 36 (0, 0)) z11_4 hb); replace HB := Aside0.mk (below_step z11_2 hb)))
     go_meet
     case rel => exact ⟨_, (true), z11_11, H', ⟨by first | omega | exact Nat.le_refl _⟩, ⟨z11_4⟩, ⟨z11_2⟩⟩
   ·
    replace c7 := Bool.eq_false_iff.mpr c7
    subst c7
    rw [if_neg (show ¬ (false = true) by decide)] at H
    have H' := Aside0.mk H
    clear H
    obtain ⟨hcz21_0, hcz21_1, hcz21_2, hcz21_3, hfz21_0, hfz21_1, hfz21_2, hfz21_3⟩ := bc4 BK257.out
    go_wp2_with (first | ((with_reducible refine gate_callee (f := 56) rfl ?_); refine goesL_ (some 9) rfl rfl Try.func56 z11_8 rfl #[.slice A0_0 l0_0.length c0_0] rfl z11_7 ?_; (with_reducible refine (spec_KnowOk.calls k _ _ l0_0 true _ ?side1 ?side2 A4.out).mono ?_); (case side1 => repeat (first | exact (Kd.C_below HR0_0.out HB.out) | (with_reducible refine Kd.C_alloc ?_ _) | (with_reducible refine Kd.C_drewN ?_ _) | (with_reducible refine Kd.C_drew ?_))); (case side2 => exact HC0_0.out); rintro e w' ⟨rfl, ⟨nd, rfl⟩⟩; refine ⟨_, rfl, ?_⟩) | (go_at_call 57; (with_reducible refine (spec_l06Tallies.calls k _ _ l0_1 false _ ?side1 ?side2 A6.out).mono ?_); (case side1 => repeat (first | exact (Kd.C_below HR0_1.out z11_2) | (with_reducible refine Kd.C_alloc ?_ _) | (with_reducible refine Kd.C_drewN ?_ _) | (with_reducible refine Kd.C_drew ?_))); (case side2 => exact HC0_1.out); rintro e w22 ⟨rfl, hb⟩; replace BK257 := Aside0.mk (blk_below (g := gb257) (o := .cells #[.slice A0_0 l0_0.length c0_0, .slice A0_1 l0_1.length c0_1, .slice A0_2 l0_2.length c0_2, .slice A0_3 l0_3.length c0_3] 36 (0, 0)) z11_4 hb); replace HB := Aside0.mk (below_step z11_2 hb)))
    go_meet
    case rel => exact ⟨_, (true), z11_11, H', ⟨by first | omega | exact Nat.le_refl _⟩, ⟨z11_4⟩, ⟨z11_2⟩⟩
  ·
   replace c5 := Bool.eq_false_iff.mpr c5
   subst c5
   rw [if_neg (show ¬ (false = true) by decide)] at H
   have H' := Aside0.mk H
   clear H
   obtain ⟨hcz23_0, hcz23_1, hcz23_2, hcz23_3, hfz23_0, hfz23_1, hfz23_2, hfz23_3⟩ := bc4 BK257.out
   go_wp2_with (first | ((with_reducible refine gate_callee (f := 56) rfl ?_); refine goesL_ (some 9) rfl rfl Try.func56 z11_8 rfl #[.slice A0_0 l0_0.length c0_0] rfl z11_7 ?_; (with_reducible refine (spec_KnowOk.calls k _ _ l0_0 false _ ?side1 ?side2 A4.out).mono ?_); (case side1 => repeat (first | exact (Kd.C_below HR0_0.out HB.out) | (with_reducible refine Kd.C_alloc ?_ _) | (with_reducible refine Kd.C_drewN ?_ _) | (with_reducible refine Kd.C_drew ?_))); (case side2 => exact HC0_0.out); rintro e w' ⟨rfl, ⟨nd, rfl⟩⟩; refine ⟨_, rfl, ?_⟩))
   go_meet
   case rel => exact ⟨_, (true), z11_11, H', ⟨by first | omega | exact Nat.le_refl _⟩, ⟨z11_4⟩, ⟨z11_2⟩⟩
 case rest =>
  clear HC2
  try clear c1
  try clear p2
  try clear c5
  try clear c7
  try clear c9
  try clear c17
  try clear hcz11_0
  try clear hcz11_1
  try clear hcz11_2
  try clear hcz11_3
  try clear hcz13_0
  try clear hcz13_1
  try clear hcz13_2
  try clear hcz13_3
  try clear hcz15_0
  try clear hcz15_1
  try clear hcz15_2
  try clear hcz15_3
  try clear hcz17_0
  try clear hcz17_1
  try clear hcz17_2
  try clear hcz17_3
  try clear hcz19_0
  try clear hcz19_1
  try clear hcz19_2
  try clear hcz19_3
  try clear hcz21_0
  try clear hcz21_1
  try clear hcz21_2
  try clear hcz21_3
  try clear hcz23_0
  try clear hcz23_1
  try clear hcz23_2
  try clear hcz23_3
  try clear hfz11_0
  try clear hfz11_1
  try clear hfz11_2
  try clear hfz11_3
  try clear hfz13_0
  try clear hfz13_1
  try clear hfz13_2
  try clear hfz13_3
  try clear hfz15_0
  try clear hfz15_1
  try clear hfz15_2
  try clear hfz15_3
  try clear hfz17_0
  try clear hfz17_1
  try clear hfz17_2
  try clear hfz17_3
  try clear hfz19_0
  try clear hfz19_1
  try clear hfz19_2
  try clear hfz19_3
  try clear hfz21_0
  try clear hfz21_1
  try clear hfz21_2
  try clear hfz21_3
  try clear hfz23_0
  try clear hfz23_1
  try clear hfz23_2
  try clear hfz23_3
  obtain ⟨kq, x28_1, rfl, HA, HJ1, BK257, HB⟩ := hcut
  cases kq with
  | zero => exact absurd HA.out (by simp [spec_StateOk.j0])
  | succ kj1 =>
   have H := HA.out
   clear HA
   simp only [spec_StateOk.j0] at H
   by_cases c24 : x28_1 = true
   ·
    subst c24
    rw [if_pos rfl] at H
    obtain rfl := Option.some.inj H
    go_wp2
    go_ret
    exact ⟨z11_10, z11_2⟩
   ·
    replace c24 := Bool.eq_false_iff.mpr c24
    subst c24
    rw [if_neg (show ¬ (false = true) by decide)] at H
    have H' := Aside0.mk H
    clear H
    go_wp2
    go_loopg [3] kj1 (fun kq v3 w' => ∃ (x3_2 : Int), v3 = .int .i64 x3_2 ∧ Aside0 (spec_StateOk.l0 kq x3_2 l0_0 l0_1 l0_2 l0_3 = some r) ∧ Aside0 (kq ≤ kj1) ∧ Aside0 (w'.heap[gb257]? = some (.cells #[(.slice A0_0 l0_0.length c0_0), (.slice A0_1 l0_1.length c0_1), (.slice A0_2 l0_2.length c0_2), (.slice A0_3 l0_3.length c0_3)] 36 (0, 0))) ∧ Aside0 (Below w.heap.size w w'))
    case atStart => exact ⟨(0), z11_11, H', ⟨Nat.le_refl _⟩, ⟨z11_4⟩, ⟨z11_2⟩⟩
    case round =>
     clear H'
     try clear c1
     try clear c2
     try clear p2
     try clear c5
     try clear c7
     try clear c9
     try clear c17
     try clear c24
     try clear hcz11_0
     try clear hcz11_1
     try clear hcz11_2
     try clear hcz11_3
     try clear hcz13_0
     try clear hcz13_1
     try clear hcz13_2
     try clear hcz13_3
     try clear hcz15_0
     try clear hcz15_1
     try clear hcz15_2
     try clear hcz15_3
     try clear hcz17_0
     try clear hcz17_1
     try clear hcz17_2
     try clear hcz17_3
     try clear hcz19_0
     try clear hcz19_1
     try clear hcz19_2
     try clear hcz19_3
     try clear hcz21_0
     try clear hcz21_1
     try clear hcz21_2
     try clear hcz21_3
     try clear hcz23_0
     try clear hcz23_1
     try clear hcz23_2
     try clear hcz23_3
     try clear hfz11_0
     try clear hfz11_1
     try clear hfz11_2
     try clear hfz11_3
     try clear hfz13_0
     try clear hfz13_1
     try clear hfz13_2
     try clear hfz13_3
     try clear hfz15_0
     try clear hfz15_1
     try clear hfz15_2
     try clear hfz15_3
     try clear hfz17_0
     try clear hfz17_1
     try clear hfz17_2
     try clear hfz17_3
     try clear hfz19_0
     try clear hfz19_1
     try clear hfz19_2
     try clear hfz19_3
     try clear hfz21_0
     try clear hfz21_1
     try clear hfz21_2
     try clear hfz21_3
     try clear hfz23_0
     try clear hfz23_1
     try clear hfz23_2
     try clear hfz23_3
     try clear p2
     obtain ⟨x3_2, rfl, HA, HK2, BK257, HB⟩ := hrel
     cases gk with
     | zero => exact absurd HA.out (by simp [spec_StateOk.l0])
     | succ k2 =>
      have H := HA.out
      clear HA
      simp only [spec_StateOk.l0] at H
      by_cases c25 : x3_2 < (l0_2.length : Int)
      ·
       rw [if_pos c25] at H
       have c25b0 : decide (x3_2 < (l0_2.length : Int)) = true := decide_eq_true c25
       clear c25
       by_cases c26 : 0 ≤ x3_2
       ·
        rw [if_pos c26] at H
        have c26b0 : decide (0 ≤ x3_2) = true := decide_eq_true c26
        clear c26
        replace H := Option.bind_eq_some_iff.mp H
        obtain ⟨t263, A270, H⟩ := H
        (try dsimp only at H)
        have A27 := Aside0.mk A270
        clear A270
        by_cases c28 : t263 = true
        ·
         subst c28
         rw [if_pos rfl] at H
         have H' := Aside0.mk H
         clear H
         obtain ⟨hcz29_0, hcz29_1, hcz29_2, hcz29_3, hfz29_0, hfz29_1, hfz29_2, hfz29_3⟩ := bc4 BK257.out
         try go_wp2
         replace BK257 := Aside0.mk (blk_drew BK257.out)
         replace HB := Aside0.mk (below_drew1 HB.out)
         have p262 : 0 ≤ (x3_2 : Int) := of_decide_eq_true z11_9
         have q262 : x3_2 < (l0_2.length : Int) := of_decide_eq_true z11_9
         obtain ⟨ad262, e262, hx262_0, hx262_1, hx262_2, hx262_3, hx262_4, hx262_5⟩ := at_T86 HR0_2.out x3_2 p262 q262
         have hw262_5 := hx262_5
         have hw262_4 := hx262_4
         have hw262_3 := hx262_3
         have hw262_2 := hx262_2
         have hw262_1 := hx262_1
         have hw262_0 := hx262_0
         cases e262
         replace hx262_0 := cb_ HB hx262_0
         replace hx262_1 := cb_ HB hx262_1
         replace hx262_2 := cb_ HB hx262_2
         replace hx262_3 := cb_ HB hx262_3
         replace hx262_4 := cb_ HB hx262_4
         replace hx262_5 := cb_ HB hx262_5
         replace p262 := eq_true p262
         replace q262 := eq_true q262
         refine start_ (n := 10) (S := fun w' => w'.cell? ⟨gb257, 0, none⟩ = some (.slice A0_0 l0_0.length c0_0) ∧ w'.cell? ⟨gb257, 1, none⟩ = some (.slice A0_1 l0_1.length c0_1) ∧ w'.cell? ⟨gb257, 2, none⟩ = some (.slice (some ad262) l0_2.length c0_2) ∧ w'.cell? ⟨gb257, 3, none⟩ = some (.slice A0_3 l0_3.length c0_3) ∧ w'.cell? (ad262.add ((x3_2).toNat * 6)) = some (.bool ((rd_T86 l0_2 x3_2).f0)) ∧ w'.cell? ⟨(ad262.add ((x3_2).toNat * 6)).block, (ad262.add ((x3_2).toNat * 6)).off + 1, none⟩ = some (.string ((rd_T86 l0_2 x3_2).f1)) ∧ w'.cell? ⟨(ad262.add ((x3_2).toNat * 6)).block, (ad262.add ((x3_2).toNat * 6)).off + 2, none⟩ = some (.string ((rd_T86 l0_2 x3_2).f2)) ∧ w'.cell? ⟨(ad262.add ((x3_2).toNat * 6)).block, (ad262.add ((x3_2).toNat * 6)).off + 3, none⟩ = some (.int .i64 ((rd_T86 l0_2 x3_2).f3)) ∧ w'.cell? ⟨(ad262.add ((x3_2).toNat * 6)).block, (ad262.add ((x3_2).toNat * 6)).off + 4, none⟩ = some (.int .i64 ((rd_T86 l0_2 x3_2).f4.f0)) ∧ w'.cell? ⟨(ad262.add ((x3_2).toNat * 6)).block, (ad262.add ((x3_2).toNat * 6)).off + 5, none⟩ = some (.int .i64 ((rd_T86 l0_2 x3_2).f4.f1))) (ds := []) mk11_0 z11_8 rfl rfl ⟨bc_ BK257 0, bc_ BK257 1, bc_ BK257 2, bc_ BK257 3, (cb_ HB hw262_0), (cb_ HB hw262_1), (cb_ HB hw262_2), (cb_ HB hw262_3), (cb_ HB hw262_4), (cb_ HB hw262_5)⟩ (fun hHeld => ?_); refine with_tabW spec_StateOk.tab6 spec_StateOk.bits6 (fun HT_ HW_ => ?_)
         generalize wr.drew = w30 at BK257 HB hx262_0 hx262_1 hx262_2 hx262_3 hx262_4 hx262_5 hHeld ⊢
         refine p_ (i := 0) (N := some 36) mk11_1 ?_ (hv := z11_6) (ha := z11_1)
         refine p_ (i := 2) (N := some 38) mk11_2 ?_ (hv := z11_6) (ha := z11_1)
         refine p_ (i := 4) (N := some 40) mk11_3 ?_ (hv := z11_6) (ha := z11_1)
         refine t_ (i := 1) (N := some 37) mk11_4 hHeld ?_ (hv := by rintro w' ⟨s0, s1, s2, s3, s4, s5, s6, s7, s8, s9⟩; go_simp; with_reducible rfl) (ha := z11_1)
         refine t_ (i := 3) (N := some 39) mk11_5 hHeld ?_ (hv := by rintro w' ⟨s0, s1, s2, s3, s4, s5, s6, s7, s8, s9⟩; go_simp; with_reducible rfl) (ha := z11_1)
         refine p_ (i := 5) (N := some 41) mk11_6 ?_ (hv := z11_6) (ha := z11_1)
         refine p_ (i := 6) (N := some 42) mk11_7 ?_ (hv := z11_6) (ha := z11_1)
         refine t_ (i := 7) (N := some 43) mk11_8 hHeld ?_ (hv := by rintro w' ⟨s0, s1, s2, s3, s4, s5, s6, s7, s8, s9⟩; go_simp; with_reducible rfl) (ha := z11_1)
         refine o_ (i := 8) (N := some 44) mk11_9 (fun K hK => ?_)
         refine goes_ Try.func60 z11_8 rfl #[.slice A0_0 l0_0.length c0_0, .agg #[.int .i64 ((rd_T86 l0_2 x3_2).f4.f0), .int .i64 ((rd_T86 l0_2 x3_2).f4.f1)]] (by rfl) rfl rfl z11_7 ?_
         with_reducible refine (spec_Knows.calls k2 _ _ l0_0 ((rd_T86 l0_2 x3_2).f4.f0) ((rd_T86 l0_2 x3_2).f4.f1) true _ ?side1 ?side2 A27.out).mono ?_
         (case side1 => repeat (first | exact (Kd.C_below HR0_0.out HB.out) | (with_reducible refine Kd.C_alloc ?_ _) | (with_reducible refine Kd.C_drewN ?_ _) | (with_reducible refine Kd.C_drew ?_)))
         (case side2 => exact HC0_0.out)
         rintro e w31 ⟨rfl, hb⟩
         refine ⟨_, rfl, ?_⟩
         replace BK257 := Aside0.mk (blk_below (g := gb257) (o := .cells #[.slice A0_0 l0_0.length c0_0, .slice A0_1 l0_1.length c0_1, .slice (some ad262) l0_2.length c0_2, .slice A0_3 l0_3.length c0_3] 36 (0, 0)) z11_4 hb)
         replace HB := Aside0.mk (below_step z11_2 hb)
         (try clear hb)
         (try clear hb2)
         (try clear hk)
         (try clear hi)
         refine hK.out _ _ ⟨bc_ BK257 0, bc_ BK257 1, bc_ BK257 2, bc_ BK257 3, (cb_ HB hw262_0), (cb_ HB hw262_1), (cb_ HB hw262_2), (cb_ HB hw262_3), (cb_ HB hw262_4), (cb_ HB hw262_5)⟩ (fun hHeld => ?_)
         clear hK K
         refine n_ ?_
         refine p_ (i := 9) (N := some 45) mk11_10 ?_ (hv := z11_6) (ha := z11_1)
         refine done_ (done_of HT_.out z11_8) ?_
         try go_wp2
         go_roundg k2
         case measure => have := HJ1.out; have := HK2.out; omega
         case rel => exact ⟨(wrap64 (x3_2 + 1)), z11_11, H', ⟨by have := HJ1.out; have := HK2.out; omega⟩, ⟨z11_4⟩, ⟨z11_2⟩⟩
        ·
         replace c28 := Bool.eq_false_iff.mpr c28
         subst c28
         rw [if_neg (show ¬ (false = true) by decide)] at H
         obtain rfl := Option.some.inj H
         obtain ⟨hcz32_0, hcz32_1, hcz32_2, hcz32_3, hfz32_0, hfz32_1, hfz32_2, hfz32_3⟩ := bc4 BK257.out
         try go_wp2
         replace BK257 := Aside0.mk (blk_drew BK257.out)
         replace HB := Aside0.mk (below_drew1 HB.out)
         have p262 : 0 ≤ (x3_2 : Int) := of_decide_eq_true z11_9
         have q262 : x3_2 < (l0_2.length : Int) := of_decide_eq_true z11_9
         obtain ⟨ad262, e262, hx262_0, hx262_1, hx262_2, hx262_3, hx262_4, hx262_5⟩ := at_T86 HR0_2.out x3_2 p262 q262
         have hw262_5 := hx262_5
         have hw262_4 := hx262_4
         have hw262_3 := hx262_3
         have hw262_2 := hx262_2
         have hw262_1 := hx262_1
         have hw262_0 := hx262_0
         cases e262
         replace hx262_0 := cb_ HB hx262_0
         replace hx262_1 := cb_ HB hx262_1
         replace hx262_2 := cb_ HB hx262_2
         replace hx262_3 := cb_ HB hx262_3
         replace hx262_4 := cb_ HB hx262_4
         replace hx262_5 := cb_ HB hx262_5
         replace p262 := eq_true p262
         replace q262 := eq_true q262
         refine start_ (n := 10) (S := fun w' => w'.cell? ⟨gb257, 0, none⟩ = some (.slice A0_0 l0_0.length c0_0) ∧ w'.cell? ⟨gb257, 1, none⟩ = some (.slice A0_1 l0_1.length c0_1) ∧ w'.cell? ⟨gb257, 2, none⟩ = some (.slice (some ad262) l0_2.length c0_2) ∧ w'.cell? ⟨gb257, 3, none⟩ = some (.slice A0_3 l0_3.length c0_3) ∧ w'.cell? (ad262.add ((x3_2).toNat * 6)) = some (.bool ((rd_T86 l0_2 x3_2).f0)) ∧ w'.cell? ⟨(ad262.add ((x3_2).toNat * 6)).block, (ad262.add ((x3_2).toNat * 6)).off + 1, none⟩ = some (.string ((rd_T86 l0_2 x3_2).f1)) ∧ w'.cell? ⟨(ad262.add ((x3_2).toNat * 6)).block, (ad262.add ((x3_2).toNat * 6)).off + 2, none⟩ = some (.string ((rd_T86 l0_2 x3_2).f2)) ∧ w'.cell? ⟨(ad262.add ((x3_2).toNat * 6)).block, (ad262.add ((x3_2).toNat * 6)).off + 3, none⟩ = some (.int .i64 ((rd_T86 l0_2 x3_2).f3)) ∧ w'.cell? ⟨(ad262.add ((x3_2).toNat * 6)).block, (ad262.add ((x3_2).toNat * 6)).off + 4, none⟩ = some (.int .i64 ((rd_T86 l0_2 x3_2).f4.f0)) ∧ w'.cell? ⟨(ad262.add ((x3_2).toNat * 6)).block, (ad262.add ((x3_2).toNat * 6)).off + 5, none⟩ = some (.int .i64 ((rd_T86 l0_2 x3_2).f4.f1))) (ds := []) mk11_0 z11_8 rfl rfl ⟨bc_ BK257 0, bc_ BK257 1, bc_ BK257 2, bc_ BK257 3, (cb_ HB hw262_0), (cb_ HB hw262_1), (cb_ HB hw262_2), (cb_ HB hw262_3), (cb_ HB hw262_4), (cb_ HB hw262_5)⟩ (fun hHeld => ?_); refine with_tabW spec_StateOk.tab6 spec_StateOk.bits6 (fun HT_ HW_ => ?_)
         generalize wr.drew = w33 at BK257 HB hx262_0 hx262_1 hx262_2 hx262_3 hx262_4 hx262_5 hHeld ⊢
         refine p_ (i := 0) (N := some 36) mk11_1 ?_ (hv := z11_6) (ha := z11_1)
         refine p_ (i := 2) (N := some 38) mk11_2 ?_ (hv := z11_6) (ha := z11_1)
         refine p_ (i := 4) (N := some 40) mk11_3 ?_ (hv := z11_6) (ha := z11_1)
         refine t_ (i := 1) (N := some 37) mk11_4 hHeld ?_ (hv := by rintro w' ⟨s0, s1, s2, s3, s4, s5, s6, s7, s8, s9⟩; go_simp; with_reducible rfl) (ha := z11_1)
         refine t_ (i := 3) (N := some 39) mk11_5 hHeld ?_ (hv := by rintro w' ⟨s0, s1, s2, s3, s4, s5, s6, s7, s8, s9⟩; go_simp; with_reducible rfl) (ha := z11_1)
         refine p_ (i := 5) (N := some 41) mk11_6 ?_ (hv := z11_6) (ha := z11_1)
         refine p_ (i := 6) (N := some 42) mk11_7 ?_ (hv := z11_6) (ha := z11_1)
         refine t_ (i := 7) (N := some 43) mk11_8 hHeld ?_ (hv := by rintro w' ⟨s0, s1, s2, s3, s4, s5, s6, s7, s8, s9⟩; go_simp; with_reducible rfl) (ha := z11_1)
         refine o_ (i := 8) (N := some 44) mk11_9 (fun K hK => ?_)
         refine goes_ Try.func60 z11_8 rfl #[.slice A0_0 l0_0.length c0_0, .agg #[.int .i64 ((rd_T86 l0_2 x3_2).f4.f0), .int .i64 ((rd_T86 l0_2 x3_2).f4.f1)]] (by rfl) rfl rfl z11_7 ?_
         with_reducible refine (spec_Knows.calls k2 _ _ l0_0 ((rd_T86 l0_2 x3_2).f4.f0) ((rd_T86 l0_2 x3_2).f4.f1) false _ ?side1 ?side2 A27.out).mono ?_
         (case side1 => repeat (first | exact (Kd.C_below HR0_0.out HB.out) | (with_reducible refine Kd.C_alloc ?_ _) | (with_reducible refine Kd.C_drewN ?_ _) | (with_reducible refine Kd.C_drew ?_)))
         (case side2 => exact HC0_0.out)
         rintro e w34 ⟨rfl, hb⟩
         refine ⟨_, rfl, ?_⟩
         replace BK257 := Aside0.mk (blk_below (g := gb257) (o := .cells #[.slice A0_0 l0_0.length c0_0, .slice A0_1 l0_1.length c0_1, .slice (some ad262) l0_2.length c0_2, .slice A0_3 l0_3.length c0_3] 36 (0, 0)) z11_4 hb)
         replace HB := Aside0.mk (below_step z11_2 hb)
         (try clear hb)
         (try clear hb2)
         (try clear hk)
         (try clear hi)
         refine hK.out _ _ ⟨bc_ BK257 0, bc_ BK257 1, bc_ BK257 2, bc_ BK257 3, (cb_ HB hw262_0), (cb_ HB hw262_1), (cb_ HB hw262_2), (cb_ HB hw262_3), (cb_ HB hw262_4), (cb_ HB hw262_5)⟩ (fun hHeld => ?_)
         clear hK K
         refine n_ ?_
         refine p_ (i := 9) (N := some 45) mk11_10 ?_ (hv := z11_6) (ha := z11_1)
         refine done_ (done_of HT_.out z11_8) ?_
         try go_wp2
         go_ret
         exact ⟨z11_10, z11_2⟩
       ·
        rw [if_neg c26] at H
        exact absurd H (by simp)
      ·
       rw [if_neg c25] at H
       have c25b0 : decide (x3_2 < (l0_2.length : Int)) = false := decide_eq_false c25
       clear c25
       have H' := Aside0.mk H
       clear H
       obtain ⟨hcz35_0, hcz35_1, hcz35_2, hcz35_3, hfz35_0, hfz35_1, hfz35_2, hfz35_3⟩ := bc4 BK257.out
       go_wp2
       go_loopg [4] k2 (fun kq v4 w' => ∃ (x4_3 : Int), v4 = .int .i64 x4_3 ∧ Aside0 (spec_StateOk.l1 kq x4_3 l0_0 l0_1 l0_2 l0_3 = some r) ∧ Aside0 (kq ≤ k2) ∧ Aside0 (w'.heap[gb257]? = some (.cells #[(.slice A0_0 l0_0.length c0_0), (.slice A0_1 l0_1.length c0_1), (.slice A0_2 l0_2.length c0_2), (.slice A0_3 l0_3.length c0_3)] 36 (0, 0))) ∧ Aside0 (Below w.heap.size w w'))
       case atStart => exact ⟨(0), z11_11, H', ⟨Nat.le_refl _⟩, ⟨z11_4⟩, ⟨z11_2⟩⟩
       case round =>
        clear H'
        try clear c1
        try clear c2
        try clear p2
        try clear q2
        try clear hx2
        try clear c5
        try clear c6
        try clear p6
        try clear c7
        try clear c9
        try clear c17
        try clear c24
        try clear c25
        try clear c25b0
        try clear c26
        try clear c26b0
        try clear p26
        try clear q26
        try clear hx26
        try clear c28
        try clear hcz11_0
        try clear hcz11_1
        try clear hcz11_2
        try clear hcz11_3
        try clear hcz13_0
        try clear hcz13_1
        try clear hcz13_2
        try clear hcz13_3
        try clear hcz15_0
        try clear hcz15_1
        try clear hcz15_2
        try clear hcz15_3
        try clear hcz17_0
        try clear hcz17_1
        try clear hcz17_2
        try clear hcz17_3
        try clear hcz19_0
        try clear hcz19_1
        try clear hcz19_2
        try clear hcz19_3
        try clear hcz21_0
        try clear hcz21_1
        try clear hcz21_2
        try clear hcz21_3
        try clear hcz23_0
        try clear hcz23_1
        try clear hcz23_2
        try clear hcz23_3
        try clear hcz29_0
        try clear hcz29_1
        try clear hcz29_2
        try clear hcz29_3
        try clear hcz32_0
        try clear hcz32_1
        try clear hcz32_2
        try clear hcz32_3
        try clear hcz35_0
        try clear hcz35_1
        try clear hcz35_2
        try clear hcz35_3
        try clear hfz11_0
        try clear hfz11_1
        try clear hfz11_2
        try clear hfz11_3
        try clear hfz13_0
        try clear hfz13_1
        try clear hfz13_2
        try clear hfz13_3
        try clear hfz15_0
        try clear hfz15_1
        try clear hfz15_2
        try clear hfz15_3
        try clear hfz17_0
        try clear hfz17_1
        try clear hfz17_2
        try clear hfz17_3
        try clear hfz19_0
        try clear hfz19_1
        try clear hfz19_2
        try clear hfz19_3
        try clear hfz21_0
        try clear hfz21_1
        try clear hfz21_2
        try clear hfz21_3
        try clear hfz23_0
        try clear hfz23_1
        try clear hfz23_2
        try clear hfz23_3
        try clear hfz29_0
        try clear hfz29_1
        try clear hfz29_2
        try clear hfz29_3
        try clear hfz32_0
        try clear hfz32_1
        try clear hfz32_2
        try clear hfz32_3
        try clear hfz35_0
        try clear hfz35_1
        try clear hfz35_2
        try clear hfz35_3
        try clear hx262_0
        try clear hx262_1
        try clear hx262_2
        try clear hx262_3
        try clear hx262_4
        try clear hx262_5
        try clear p2
        try clear p262
        try clear q262
        obtain ⟨x4_3, rfl, HA, HK3, BK257, HB⟩ := hrel
        cases gk with
        | zero => exact absurd HA.out (by simp [spec_StateOk.l1])
        | succ k3 =>
         have H := HA.out
         clear HA
         simp only [spec_StateOk.l1] at H
         by_cases c36 : x4_3 < (l0_3.length : Int)
         ·
          rw [if_pos c36] at H
          have c36b0 : decide (x4_3 < (l0_3.length : Int)) = true := decide_eq_true c36
          clear c36
          by_cases c37 : 0 ≤ x4_3
          ·
           rw [if_pos c37] at H
           have c37b0 : decide (0 ≤ x4_3) = true := decide_eq_true c37
           clear c37
           replace H := Option.bind_eq_some_iff.mp H
           obtain ⟨t266, A380, H⟩ := H
           (try dsimp only at H)
           have A38 := Aside0.mk A380
           clear A380
           by_cases c39 : t266 = true
           ·
            subst c39
            rw [if_pos rfl] at H
            by_cases c40 : (((rd_T73 l0_3 x4_3).f3.f0) == 0 && (((rd_T73 l0_3 x4_3).f3.f1) == 0)) = true
            ·
             rw [if_pos c40] at H
             have c40b0 : (((rd_T73 l0_3 x4_3).f3.f0) == 0 && (((rd_T73 l0_3 x4_3).f3.f1) == 0)) = true := c40
             (try (have c40b1 : decide (((rd_T73 l0_3 x4_3).f3.f0) = 0 && (((rd_T73 l0_3 x4_3).f3.f1) == 0)) = true := by simpa using c40))
             (try (have c40b2 : (((rd_T73 l0_3 x4_3).f3.f0) == 0 && (((rd_T73 l0_3 x4_3).f3.f1) == 0)) = true := by simpa using c40))
             clear c40
             have H' := Aside0.mk H
             clear H
             obtain ⟨hcz41_0, hcz41_1, hcz41_2, hcz41_3, hfz41_0, hfz41_1, hfz41_2, hfz41_3⟩ := bc4 BK257.out
             have p264 : 0 ≤ (x4_3 : Int) := of_decide_eq_true z11_9
             have q264 : x4_3 < (l0_3.length : Int) := of_decide_eq_true z11_9
             obtain ⟨ad264, e264, hx264_0, hx264_1, hx264_2, hx264_3, hx264_4, hx264_5, hx264_6, hx264_7⟩ := at_T73 HR0_3.out x4_3 p264 q264
             cases e264
             replace hx264_0 := cb_ HB hx264_0
             replace hx264_1 := cb_ HB hx264_1
             replace hx264_2 := cb_ HB hx264_2
             replace hx264_3 := cb_ HB hx264_3
             replace hx264_4 := cb_ HB hx264_4
             replace hx264_5 := cb_ HB hx264_5
             replace hx264_6 := cb_ HB hx264_6
             replace hx264_7 := cb_ HB hx264_7
             replace p264 := eq_true p264
             replace q264 := eq_true q264
             go_wp2_with (first | ((with_reducible refine gate_dst (N := 5) rfl ?_); refine box_event ?hg (N := 5) ?hd (cs := #[.string (⟨#[]⟩ : ByteArray), .int .i64 0, .int .i64 0, .int .i64 0, .int .i64 0, .int .i64 0, .int .i64 0, .bool false]) (t := 73) ?hr ?_; (case hd => rfl); (case hg => rfl); (case hr => first | (go_simp; done) | (go_simp; rfl)); intro gb265 hg w42 hbox hb; have BK265 := Aside0.mk (hbox); have GW265 := gw_ w z11_2 hg; have GE265 := gw_ w z11_2 hg; replace HB := Aside0.mk (below_step z11_2 hb); have NB257_265 := Aside0.mk ((by rw [hg]; exact Nat.ne_of_lt (blk_lt (g := gb257) (o := .cells #[.slice A0_0 l0_0.length c0_0, .slice A0_1 l0_1.length c0_1, .slice A0_2 l0_2.length c0_2, .slice (some ad264) l0_3.length c0_3] 36 (0, 0)) z11_4) : gb257 ≠ gb265)); have NB265_257 := Aside0.mk ((by rw [hg]; exact Nat.ne_of_gt (blk_lt (g := gb257) (o := .cells #[.slice A0_0 l0_0.length c0_0, .slice A0_1 l0_1.length c0_1, .slice A0_2 l0_2.length c0_2, .slice (some ad264) l0_3.length c0_3] 36 (0, 0)) z11_4) : gb265 ≠ gb257)); replace BK257 := Aside0.mk (blk_below (g := gb257) (o := .cells #[.slice A0_0 l0_0.length c0_0, .slice A0_1 l0_1.length c0_1, .slice A0_2 l0_2.length c0_2, .slice (some ad264) l0_3.length c0_3] 36 (0, 0)) z11_4 hb); clear hb hbox hg; have hnb43 := NB265_257.out; have hnc43 := NB257_265.out; obtain ⟨hcz44_0, hcz44_1, hcz44_2, hcz44_3, hcz44_4, hcz44_5, hcz44_6, hcz44_7, hfz44_0, hfz44_1, hfz44_2, hfz44_3, hfz44_4, hfz44_5, hfz44_6, hfz44_7⟩ := bc8 BK265.out; obtain ⟨hcz45_0, hcz45_1, hcz45_2, hcz45_3, hfz45_0, hfz45_1, hfz45_2, hfz45_3⟩ := bc4 BK257.out) | ((with_reducible refine gate_callee (f := 60) rfl ?_); refine goesL_ (some 62) rfl rfl Try.func60 z11_8 rfl #[.slice A0_0 l0_0.length c0_0, .agg #[.int .i64 ((rd_T73 l0_3 x4_3).f1.f0), .int .i64 ((rd_T73 l0_3 x4_3).f1.f1)]] rfl z11_7 ?_; (with_reducible refine (spec_Knows.calls k3 _ _ l0_0 ((rd_T73 l0_3 x4_3).f1.f0) ((rd_T73 l0_3 x4_3).f1.f1) true _ ?side1 ?side2 A38.out).mono ?_); (case side1 => exact Kd.C_below HR0_0.out z11_5); (case side2 => exact HC0_0.out); rintro e w46 ⟨rfl, hb⟩; refine ⟨_, rfl, ?_⟩; replace BK257 := Aside0.mk (blk_below (g := gb257) (o := .cells #[.slice A0_0 l0_0.length c0_0, .slice A0_1 l0_1.length c0_1, .slice A0_2 l0_2.length c0_2, .slice (some ad264) l0_3.length c0_3] 36 (0, 0)) z11_3 hb); replace BK265 := Aside0.mk (blk_below (g := gb265) (o := .cells #[.string ((rd_T73 l0_3 x4_3).f0), .int .i64 ((rd_T73 l0_3 x4_3).f1.f0), .int .i64 ((rd_T73 l0_3 x4_3).f1.f1), .int .i64 ((rd_T73 l0_3 x4_3).f2), .int .i64 ((rd_T73 l0_3 x4_3).f3.f0), .int .i64 ((rd_T73 l0_3 x4_3).f3.f1), .int .i64 ((rd_T73 l0_3 x4_3).f4), .bool ((rd_T73 l0_3 x4_3).f5)] 73 (0, 0)) z11_0 hb); replace HB := Aside0.mk (below_step z11_5 hb); obtain ⟨hcz47_0, hcz47_1, hcz47_2, hcz47_3, hcz47_4, hcz47_5, hcz47_6, hcz47_7, hfz47_0, hfz47_1, hfz47_2, hfz47_3, hfz47_4, hfz47_5, hfz47_6, hfz47_7⟩ := bc8 BK265.out))
             go_roundg k3
             case measure => have := HJ1.out; have := HK2.out; have := HK3.out; omega
             case rel => exact ⟨(wrap64 (x4_3 + 1)), z11_11, H', ⟨by have := HJ1.out; have := HK2.out; have := HK3.out; omega⟩, ⟨z11_4⟩, ⟨z11_5⟩⟩
            ·
             rw [if_neg c40] at H
             have c40b0 : (((rd_T73 l0_3 x4_3).f3.f0) == 0 && (((rd_T73 l0_3 x4_3).f3.f1) == 0)) = false := by simpa using c40
             (try (have c40b1 : decide (((rd_T73 l0_3 x4_3).f3.f0) = 0 && (((rd_T73 l0_3 x4_3).f3.f1) == 0)) = false := by simpa using c40))
             (try (have c40b2 : (((rd_T73 l0_3 x4_3).f3.f0) == 0 && (((rd_T73 l0_3 x4_3).f3.f1) == 0)) = false := by simpa using c40))
             (try (have c40b3 : ¬ (((rd_T73 l0_3 x4_3).f3.f0) = 0 && (((rd_T73 l0_3 x4_3).f3.f1) == 0)) := by simpa using c40))
             clear c40
             replace H := Option.bind_eq_some_iff.mp H
             obtain ⟨t267, A480, H⟩ := H
             (try dsimp only at H)
             have A48 := Aside0.mk A480
             clear A480
             by_cases c49 : t267 < 0
             ·
              rw [if_pos c49] at H
              have c49b0 : decide (t267 < 0) = true := decide_eq_true c49
              clear c49
              obtain rfl := Option.some.inj H
              obtain ⟨hcz50_0, hcz50_1, hcz50_2, hcz50_3, hfz50_0, hfz50_1, hfz50_2, hfz50_3⟩ := bc4 BK257.out
              have p264 : 0 ≤ (x4_3 : Int) := of_decide_eq_true z11_9
              have q264 : x4_3 < (l0_3.length : Int) := of_decide_eq_true z11_9
              obtain ⟨ad264, e264, hx264_0, hx264_1, hx264_2, hx264_3, hx264_4, hx264_5, hx264_6, hx264_7⟩ := at_T73 HR0_3.out x4_3 p264 q264
              cases e264
              replace hx264_0 := cb_ HB hx264_0
              replace hx264_1 := cb_ HB hx264_1
              replace hx264_2 := cb_ HB hx264_2
              replace hx264_3 := cb_ HB hx264_3
              replace hx264_4 := cb_ HB hx264_4
              replace hx264_5 := cb_ HB hx264_5
              replace hx264_6 := cb_ HB hx264_6
              replace hx264_7 := cb_ HB hx264_7
              replace p264 := eq_true p264
              replace q264 := eq_true q264
              try go_wp2_with (first | ((with_reducible refine gate_dst (N := 5) rfl ?_); refine box_event ?hg (N := 5) ?hd (cs := #[.string (⟨#[]⟩ : ByteArray), .int .i64 0, .int .i64 0, .int .i64 0, .int .i64 0, .int .i64 0, .int .i64 0, .bool false]) (t := 73) ?hr ?_; (case hd => rfl); (case hg => rfl); (case hr => first | (go_simp; done) | (go_simp; rfl)); intro gb265 hg w51 hbox hb; have BK265 := Aside0.mk (hbox); have GW265 := gw_ w z11_2 hg; have GE265 := gw_ w z11_2 hg; replace HB := Aside0.mk (below_step z11_2 hb); have NB257_265 := Aside0.mk ((by rw [hg]; exact Nat.ne_of_lt (blk_lt (g := gb257) (o := .cells #[.slice A0_0 l0_0.length c0_0, .slice A0_1 l0_1.length c0_1, .slice A0_2 l0_2.length c0_2, .slice (some ad264) l0_3.length c0_3] 36 (0, 0)) z11_4) : gb257 ≠ gb265)); have NB265_257 := Aside0.mk ((by rw [hg]; exact Nat.ne_of_gt (blk_lt (g := gb257) (o := .cells #[.slice A0_0 l0_0.length c0_0, .slice A0_1 l0_1.length c0_1, .slice A0_2 l0_2.length c0_2, .slice (some ad264) l0_3.length c0_3] 36 (0, 0)) z11_4) : gb265 ≠ gb257)); replace BK257 := Aside0.mk (blk_below (g := gb257) (o := .cells #[.slice A0_0 l0_0.length c0_0, .slice A0_1 l0_1.length c0_1, .slice A0_2 l0_2.length c0_2, .slice (some ad264) l0_3.length c0_3] 36 (0, 0)) z11_4 hb); clear hb hbox hg; have hnb52 := NB265_257.out; have hnc52 := NB257_265.out; obtain ⟨hcz53_0, hcz53_1, hcz53_2, hcz53_3, hcz53_4, hcz53_5, hcz53_6, hcz53_7, hfz53_0, hfz53_1, hfz53_2, hfz53_3, hfz53_4, hfz53_5, hfz53_6, hfz53_7⟩ := bc8 BK265.out; obtain ⟨hcz54_0, hcz54_1, hcz54_2, hcz54_3, hfz54_0, hfz54_1, hfz54_2, hfz54_3⟩ := bc4 BK257.out) | ((with_reducible refine gate_callee (f := 60) rfl ?_); refine goesL_ (some 62) rfl rfl Try.func60 z11_8 rfl #[.slice A0_0 l0_0.length c0_0, .agg #[.int .i64 ((rd_T73 l0_3 x4_3).f1.f0), .int .i64 ((rd_T73 l0_3 x4_3).f1.f1)]] rfl z11_7 ?_; (with_reducible refine (spec_Knows.calls k3 _ _ l0_0 ((rd_T73 l0_3 x4_3).f1.f0) ((rd_T73 l0_3 x4_3).f1.f1) true _ ?side1 ?side2 A38.out).mono ?_); (case side1 => exact Kd.C_below HR0_0.out z11_5); (case side2 => exact HC0_0.out); rintro e w55 ⟨rfl, hb⟩; refine ⟨_, rfl, ?_⟩; replace BK257 := Aside0.mk (blk_below (g := gb257) (o := .cells #[.slice A0_0 l0_0.length c0_0, .slice A0_1 l0_1.length c0_1, .slice A0_2 l0_2.length c0_2, .slice (some ad264) l0_3.length c0_3] 36 (0, 0)) z11_3 hb); replace BK265 := Aside0.mk (blk_below (g := gb265) (o := .cells #[.string ((rd_T73 l0_3 x4_3).f0), .int .i64 ((rd_T73 l0_3 x4_3).f1.f0), .int .i64 ((rd_T73 l0_3 x4_3).f1.f1), .int .i64 ((rd_T73 l0_3 x4_3).f2), .int .i64 ((rd_T73 l0_3 x4_3).f3.f0), .int .i64 ((rd_T73 l0_3 x4_3).f3.f1), .int .i64 ((rd_T73 l0_3 x4_3).f4), .bool ((rd_T73 l0_3 x4_3).f5)] 73 (0, 0)) z11_0 hb); replace HB := Aside0.mk (below_step z11_5 hb); obtain ⟨hcz56_0, hcz56_1, hcz56_2, hcz56_3, hcz56_4, hcz56_5, hcz56_6, hcz56_7, hfz56_0, hfz56_1, hfz56_2, hfz56_3, hfz56_4, hfz56_5, hfz56_6, hfz56_7⟩ := bc8 BK265.out; obtain ⟨hcz57_0, hcz57_1, hcz57_2, hcz57_3, hfz57_0, hfz57_1, hfz57_2, hfz57_3⟩ := bc4 BK257.out) | ((with_reducible refine gate_callee (f := 10) rfl ?_); refine goesL_ (some 71) rfl rfl Try.func10 z11_8 rfl #[.agg #[.slice A0_0 l0_0.length c0_0, .slice A0_1 l0_1.length c0_1, .slice A0_2 l0_2.length c0_2, .slice (some ad264) l0_3.length c0_3], .agg #[.int .i64 ((rd_T73 l0_3 x4_3).f3.f0), .int .i64 ((rd_T73 l0_3 x4_3).f3.f1)]] rfl z11_7 ?_; (with_reducible refine (spec_CellAt.calls k3 _ _ l0_0 _ _ l0_1 _ _ l0_2 _ _ l0_3 ((rd_T73 l0_3 x4_3).f3.f0) ((rd_T73 l0_3 x4_3).f3.f1) t267 _ ?side1 ?side2 ?side3 ?side4 ?side5 ?side6 ?side7 ?side8 A48.out).mono ?_); (case side1 => repeat (first | exact (Kd.C_below HR0_0.out HB.out) | (with_reducible refine Kd.C_alloc ?_ _) | (with_reducible refine Kd.C_drewN ?_ _) | (with_reducible refine Kd.C_drew ?_))); (case side2 => exact HC0_0.out); (case side3 => repeat (first | exact (Kd.C_below HR0_1.out HB.out) | (with_reducible refine Kd.C_alloc ?_ _) | (with_reducible refine Kd.C_drewN ?_ _) | (with_reducible refine Kd.C_drew ?_))); (case side4 => exact HC0_1.out); (case side5 => repeat (first | exact (Kd.C_below HR0_2.out HB.out) | (with_reducible refine Kd.C_alloc ?_ _) | (with_reducible refine Kd.C_drewN ?_ _) | (with_reducible refine Kd.C_drew ?_))); (case side6 => exact HC0_2.out); (case side7 => repeat (first | exact (Kd.C_below HR0_3.out HB.out) | (with_reducible refine Kd.C_alloc ?_ _) | (with_reducible refine Kd.C_drewN ?_ _) | (with_reducible refine Kd.C_drew ?_))); (case side8 => exact HC0_3.out); rintro e w58 ⟨rfl, hb⟩; refine ⟨_, rfl, ?_⟩; replace BK257 := Aside0.mk (blk_below (g := gb257) (o := .cells #[.slice A0_0 l0_0.length c0_0, .slice A0_1 l0_1.length c0_1, .slice A0_2 l0_2.length c0_2, .slice (some ad264) l0_3.length c0_3] 36 (0, 0)) z11_4 hb); replace BK265 := Aside0.mk (blk_below (g := gb265) (o := .cells #[.string ((rd_T73 l0_3 x4_3).f0), .int .i64 ((rd_T73 l0_3 x4_3).f1.f0), .int .i64 ((rd_T73 l0_3 x4_3).f1.f1), .int .i64 ((rd_T73 l0_3 x4_3).f2), .int .i64 ((rd_T73 l0_3 x4_3).f3.f0), .int .i64 ((rd_T73 l0_3 x4_3).f3.f1), .int .i64 ((rd_T73 l0_3 x4_3).f4), .bool ((rd_T73 l0_3 x4_3).f5)] 73 (0, 0)) z11_12 hb); replace HB := Aside0.mk (below_step z11_5 hb)))
              replace BK257 := Aside0.mk (blk_drew BK257.out)
              replace BK265 := Aside0.mk (blk_drew BK265.out)
              replace HB := Aside0.mk (below_drew1 HB.out)
              refine start_ (n := 24) (S := fun w' => True) (ds := []) mk11_11 z11_8 rfl rfl trivial (fun hHeld => ?_); refine with_tabW spec_StateOk.tab16 spec_StateOk.bits16 (fun HT_ HW_ => ?_)
              generalize w58.drew = w59 at BK257 BK265 HB hHeld ⊢
              refine p_ (i := 0) (N := some 72) mk11_12 ?_ (hv := z11_6) (ha := z11_1)
              refine p_ (i := 1) (N := some 73) mk11_13 ?_ (hv := z11_6) (ha := z11_1)
              refine p_ (i := 2) (N := some 74) mk11_14 ?_ (hv := z11_6) (ha := z11_1)
              refine u_ (i := 3) (N := some 75) mk11_15 ?_ (ha := z11_1)
              refine u_ (i := 4) (N := some 76) mk11_16 ?_ (ha := z11_1)
              refine u_ (i := 5) (N := some 77) mk11_17 ?_ (ha := z11_1)
              refine u_ (i := 6) (N := some 78) mk11_18 ?_ (ha := z11_1)
              refine u_ (i := 7) (N := some 79) mk11_19 ?_ (ha := z11_1)
              refine u_ (i := 8) (N := some 80) mk11_20 ?_ (ha := z11_1)
              refine u_ (i := 9) (N := some 81) mk11_21 ?_ (ha := z11_1)
              refine u_ (i := 10) (N := some 82) mk11_22 ?_ (ha := z11_1)
              refine u_ (i := 11) (N := some 83) mk11_23 ?_ (ha := z11_1)
              refine p_ (i := 12) (N := some 84) mk11_24 ?_ (hv := z11_6) (ha := z11_1)
              refine p_ (i := 13) (N := some 85) mk11_25 ?_ (hv := z11_6) (ha := z11_1)
              refine u_ (i := 14) (N := some 86) mk11_26 ?_ (ha := z11_1)
              refine u_ (i := 15) (N := some 87) mk11_27 ?_ (ha := z11_1)
              refine u_ (i := 16) (N := some 88) mk11_28 ?_ (ha := z11_1)
              refine u_ (i := 17) (N := some 89) mk11_29 ?_ (ha := z11_1)
              refine u_ (i := 18) (N := some 90) mk11_30 ?_ (ha := z11_1)
              refine u_ (i := 19) (N := some 91) mk11_31 ?_ (ha := z11_1)
              refine u_ (i := 20) (N := some 92) mk11_32 ?_ (ha := z11_1)
              refine u_ (i := 21) (N := some 93) mk11_33 ?_ (ha := z11_1)
              refine u_ (i := 22) (N := some 94) mk11_34 ?_ (ha := z11_1)
              refine p_ (i := 23) (N := some 95) mk11_35 ?_ (hv := z11_6) (ha := z11_1)
              refine done_ (done_of HT_.out z11_8) ?_
              try go_wp2
              go_ret
              exact ⟨z11_10, z11_5⟩
             ·
              rw [if_neg c49] at H
              have c49b0 : decide (t267 < 0) = false := decide_eq_false c49
              clear c49
              by_cases c60 : 0 ≤ t267
              ·
               rw [if_pos c60] at H
               have c60b0 : decide (0 ≤ t267) = true := decide_eq_true c60
               clear c60
               by_cases c61 : t267 < (l0_3.length : Int)
               ·
                rw [if_pos c61] at H
                have c61b0 : decide (t267 < (l0_3.length : Int)) = true := decide_eq_true c61
                clear c61
                by_cases c62 : ((rd_T73 l0_3 t267).f0).toList = ((rd_T73 l0_3 x4_3).f0).toList
                ·
                 rw [if_pos c62] at H
                 have c62b0 : (((rd_T73 l0_3 t267).f0).toList == ((rd_T73 l0_3 x4_3).f0).toList) = true := beq_iff_eq.mpr c62
                 have c62b1 : (((rd_T73 l0_3 t267).f0).toList != ((rd_T73 l0_3 x4_3).f0).toList) = false := bne_eq_false_iff_eq.mpr c62
                 clear c62
                 by_cases c63 : ((rd_T73 l0_3 t267).f2) ≥ ((rd_T73 l0_3 x4_3).f2)
                 ·
                  rw [if_pos c63] at H
                  have c63b0 : decide (((rd_T73 l0_3 x4_3).f2) ≤ ((rd_T73 l0_3 t267).f2)) = true := decide_eq_true c63
                  clear c63
                  obtain rfl := Option.some.inj H
                  obtain ⟨hcz64_0, hcz64_1, hcz64_2, hcz64_3, hfz64_0, hfz64_1, hfz64_2, hfz64_3⟩ := bc4 BK257.out
                  have p264 : 0 ≤ (x4_3 : Int) := of_decide_eq_true z11_9
                  have q264 : x4_3 < (l0_3.length : Int) := of_decide_eq_true z11_9
                  obtain ⟨ad264, e264, hx264_0, hx264_1, hx264_2, hx264_3, hx264_4, hx264_5, hx264_6, hx264_7⟩ := at_T73 HR0_3.out x4_3 p264 q264
                  cases e264
                  replace hx264_0 := cb_ HB hx264_0
                  replace hx264_1 := cb_ HB hx264_1
                  replace hx264_2 := cb_ HB hx264_2
                  replace hx264_3 := cb_ HB hx264_3
                  replace hx264_4 := cb_ HB hx264_4
                  replace hx264_5 := cb_ HB hx264_5
                  replace hx264_6 := cb_ HB hx264_6
                  replace hx264_7 := cb_ HB hx264_7
                  replace p264 := eq_true p264
                  replace q264 := eq_true q264
                  try go_wp2_with (first | ((with_reducible refine gate_dst (N := 5) rfl ?_); refine box_event ?hg (N := 5) ?hd (cs := #[.string (⟨#[]⟩ : ByteArray), .int .i64 0, .int .i64 0, .int .i64 0, .int .i64 0, .int .i64 0, .int .i64 0, .bool false]) (t := 73) ?hr ?_; (case hd => rfl); (case hg => rfl); (case hr => first | (go_simp; done) | (go_simp; rfl)); intro gb265 hg w65 hbox hb; have BK265 := Aside0.mk (hbox); have GW265 := gw_ w z11_2 hg; have GE265 := gw_ w z11_2 hg; replace HB := Aside0.mk (below_step z11_2 hb); have NB257_265 := Aside0.mk ((by rw [hg]; exact Nat.ne_of_lt (blk_lt (g := gb257) (o := .cells #[.slice A0_0 l0_0.length c0_0, .slice A0_1 l0_1.length c0_1, .slice A0_2 l0_2.length c0_2, .slice (some ad264) l0_3.length c0_3] 36 (0, 0)) z11_4) : gb257 ≠ gb265)); have NB265_257 := Aside0.mk ((by rw [hg]; exact Nat.ne_of_gt (blk_lt (g := gb257) (o := .cells #[.slice A0_0 l0_0.length c0_0, .slice A0_1 l0_1.length c0_1, .slice A0_2 l0_2.length c0_2, .slice (some ad264) l0_3.length c0_3] 36 (0, 0)) z11_4) : gb265 ≠ gb257)); replace BK257 := Aside0.mk (blk_below (g := gb257) (o := .cells #[.slice A0_0 l0_0.length c0_0, .slice A0_1 l0_1.length c0_1, .slice A0_2 l0_2.length c0_2, .slice (some ad264) l0_3.length c0_3] 36 (0, 0)) z11_4 hb); clear hb hbox hg; have hnb66 := NB265_257.out; have hnc66 := NB257_265.out; obtain ⟨hcz67_0, hcz67_1, hcz67_2, hcz67_3, hcz67_4, hcz67_5, hcz67_6, hcz67_7, hfz67_0, hfz67_1, hfz67_2, hfz67_3, hfz67_4, hfz67_5, hfz67_6, hfz67_7⟩ := bc8 BK265.out; obtain ⟨hcz68_0, hcz68_1, hcz68_2, hcz68_3, hfz68_0, hfz68_1, hfz68_2, hfz68_3⟩ := bc4 BK257.out) | ((with_reducible refine gate_callee (f := 60) rfl ?_); refine goesL_ (some 62) rfl rfl Try.func60 z11_8 rfl #[.slice A0_0 l0_0.length c0_0, .agg #[.int .i64 ((rd_T73 l0_3 x4_3).f1.f0), .int .i64 ((rd_T73 l0_3 x4_3).f1.f1)]] rfl z11_7 ?_; (with_reducible refine (spec_Knows.calls k3 _ _ l0_0 ((rd_T73 l0_3 x4_3).f1.f0) ((rd_T73 l0_3 x4_3).f1.f1) true _ ?side1 ?side2 A38.out).mono ?_); (case side1 => exact Kd.C_below HR0_0.out z11_5); (case side2 => exact HC0_0.out); rintro e w69 ⟨rfl, hb⟩; refine ⟨_, rfl, ?_⟩; replace BK257 := Aside0.mk (blk_below (g := gb257) (o := .cells #[.slice A0_0 l0_0.length c0_0, .slice A0_1 l0_1.length c0_1, .slice A0_2 l0_2.length c0_2, .slice (some ad264) l0_3.length c0_3] 36 (0, 0)) z11_3 hb); replace BK265 := Aside0.mk (blk_below (g := gb265) (o := .cells #[.string ((rd_T73 l0_3 x4_3).f0), .int .i64 ((rd_T73 l0_3 x4_3).f1.f0), .int .i64 ((rd_T73 l0_3 x4_3).f1.f1), .int .i64 ((rd_T73 l0_3 x4_3).f2), .int .i64 ((rd_T73 l0_3 x4_3).f3.f0), .int .i64 ((rd_T73 l0_3 x4_3).f3.f1), .int .i64 ((rd_T73 l0_3 x4_3).f4), .bool ((rd_T73 l0_3 x4_3).f5)] 73 (0, 0)) z11_0 hb); replace HB := Aside0.mk (below_step z11_5 hb); obtain ⟨hcz70_0, hcz70_1, hcz70_2, hcz70_3, hcz70_4, hcz70_5, hcz70_6, hcz70_7, hfz70_0, hfz70_1, hfz70_2, hfz70_3, hfz70_4, hfz70_5, hfz70_6, hfz70_7⟩ := bc8 BK265.out; obtain ⟨hcz71_0, hcz71_1, hcz71_2, hcz71_3, hfz71_0, hfz71_1, hfz71_2, hfz71_3⟩ := bc4 BK257.out) | ((with_reducible refine gate_callee (f := 10) rfl ?_); refine goesL_ (some 71) rfl rfl Try.func10 z11_8 rfl #[.agg #[.slice A0_0 l0_0.length c0_0, .slice A0_1 l0_1.length c0_1, .slice A0_2 l0_2.length c0_2, .slice (some ad264) l0_3.length c0_3], .agg #[.int .i64 ((rd_T73 l0_3 x4_3).f3.f0), .int .i64 ((rd_T73 l0_3 x4_3).f3.f1)]] rfl z11_7 ?_; (with_reducible refine (spec_CellAt.calls k3 _ _ l0_0 _ _ l0_1 _ _ l0_2 _ _ l0_3 ((rd_T73 l0_3 x4_3).f3.f0) ((rd_T73 l0_3 x4_3).f3.f1) t267 _ ?side1 ?side2 ?side3 ?side4 ?side5 ?side6 ?side7 ?side8 A48.out).mono ?_); (case side1 => repeat (first | exact (Kd.C_below HR0_0.out HB.out) | (with_reducible refine Kd.C_alloc ?_ _) | (with_reducible refine Kd.C_drewN ?_ _) | (with_reducible refine Kd.C_drew ?_))); (case side2 => exact HC0_0.out); (case side3 => repeat (first | exact (Kd.C_below HR0_1.out HB.out) | (with_reducible refine Kd.C_alloc ?_ _) | (with_reducible refine Kd.C_drewN ?_ _) | (with_reducible refine Kd.C_drew ?_))); (case side4 => exact HC0_1.out); (case side5 => repeat (first | exact (Kd.C_below HR0_2.out HB.out) | (with_reducible refine Kd.C_alloc ?_ _) | (with_reducible refine Kd.C_drewN ?_ _) | (with_reducible refine Kd.C_drew ?_))); (case side6 => exact HC0_2.out); (case side7 => repeat (first | exact (Kd.C_below HR0_3.out HB.out) | (with_reducible refine Kd.C_alloc ?_ _) | (with_reducible refine Kd.C_drewN ?_ _) | (with_reducible refine Kd.C_drew ?_))); (case side8 => exact HC0_3.out); rintro e w72 ⟨rfl, hb⟩; refine ⟨_, rfl, ?_⟩; replace BK257 := Aside0.mk (blk_below (g := gb257) (o := .cells #[.slice A0_0 l0_0.length c0_0, .slice A0_1 l0_1.length c0_1, .slice A0_2 l0_2.length c0_2, .slice (some ad264) l0_3.length c0_3] 36 (0, 0)) z11_4 hb); replace BK265 := Aside0.mk (blk_below (g := gb265) (o := .cells #[.string ((rd_T73 l0_3 x4_3).f0), .int .i64 ((rd_T73 l0_3 x4_3).f1.f0), .int .i64 ((rd_T73 l0_3 x4_3).f1.f1), .int .i64 ((rd_T73 l0_3 x4_3).f2), .int .i64 ((rd_T73 l0_3 x4_3).f3.f0), .int .i64 ((rd_T73 l0_3 x4_3).f3.f1), .int .i64 ((rd_T73 l0_3 x4_3).f4), .bool ((rd_T73 l0_3 x4_3).f5)] 73 (0, 0)) z11_12 hb); replace HB := Aside0.mk (below_step z11_5 hb)))
                  replace BK257 := Aside0.mk (blk_drew BK257.out)
                  replace BK265 := Aside0.mk (blk_drew BK265.out)
                  replace HB := Aside0.mk (below_drew1 HB.out)
                  have p268 : 0 ≤ (t267 : Int) := of_decide_eq_true z11_9
                  have q268 : t267 < (l0_3.length : Int) := of_decide_eq_true z11_9
                  obtain ⟨ad268, e268, hx268_0, hx268_1, hx268_2, hx268_3, hx268_4, hx268_5, hx268_6, hx268_7⟩ := at_T73 HR0_3.out t267 p268 q268
                  have hw268_7 := hx268_7
                  have hw268_6 := hx268_6
                  have hw268_5 := hx268_5
                  have hw268_4 := hx268_4
                  have hw268_3 := hx268_3
                  have hw268_2 := hx268_2
                  have hw268_1 := hx268_1
                  have hw268_0 := hx268_0
                  obtain rfl : ad264 = ad268 := (by injection e268)
                  replace hx268_0 := cb_ HB hx268_0
                  replace hx268_1 := cb_ HB hx268_1
                  replace hx268_2 := cb_ HB hx268_2
                  replace hx268_3 := cb_ HB hx268_3
                  replace hx268_4 := cb_ HB hx268_4
                  replace hx268_5 := cb_ HB hx268_5
                  replace hx268_6 := cb_ HB hx268_6
                  replace hx268_7 := cb_ HB hx268_7
                  replace p268 := eq_true p268
                  replace q268 := eq_true q268
                  have p269 : 0 ≤ (t267 : Int) := of_decide_eq_true z11_9
                  have q269 : t267 < (l0_3.length : Int) := of_decide_eq_true z11_9
                  obtain ⟨ad269, e269, hx269_0, hx269_1, hx269_2, hx269_3, hx269_4, hx269_5, hx269_6, hx269_7⟩ := at_T73 HR0_3.out t267 p269 q269
                  have hw269_7 := hx269_7
                  have hw269_6 := hx269_6
                  have hw269_5 := hx269_5
                  have hw269_4 := hx269_4
                  have hw269_3 := hx269_3
                  have hw269_2 := hx269_2
                  have hw269_1 := hx269_1
                  have hw269_0 := hx269_0
                  obtain rfl : ad264 = ad269 := (by injection e269)
                  replace hx269_0 := cb_ HB hx269_0
                  replace hx269_1 := cb_ HB hx269_1
                  replace hx269_2 := cb_ HB hx269_2
                  replace hx269_3 := cb_ HB hx269_3
                  replace hx269_4 := cb_ HB hx269_4
                  replace hx269_5 := cb_ HB hx269_5
                  replace hx269_6 := cb_ HB hx269_6
                  replace hx269_7 := cb_ HB hx269_7
                  replace p269 := eq_true p269
                  replace q269 := eq_true q269
                  refine start_ (n := 24) (S := fun w' => w'.cell? ⟨gb257, 0, none⟩ = some (.slice A0_0 l0_0.length c0_0) ∧ w'.cell? ⟨gb257, 1, none⟩ = some (.slice A0_1 l0_1.length c0_1) ∧ w'.cell? ⟨gb257, 2, none⟩ = some (.slice A0_2 l0_2.length c0_2) ∧ w'.cell? ⟨gb257, 3, none⟩ = some (.slice (some ad264) l0_3.length c0_3) ∧ w'.cell? ⟨gb265, 0, none⟩ = some (.string ((rd_T73 l0_3 x4_3).f0)) ∧ w'.cell? ⟨gb265, 1, none⟩ = some (.int .i64 ((rd_T73 l0_3 x4_3).f1.f0)) ∧ w'.cell? ⟨gb265, 2, none⟩ = some (.int .i64 ((rd_T73 l0_3 x4_3).f1.f1)) ∧ w'.cell? ⟨gb265, 3, none⟩ = some (.int .i64 ((rd_T73 l0_3 x4_3).f2)) ∧ w'.cell? ⟨gb265, 4, none⟩ = some (.int .i64 ((rd_T73 l0_3 x4_3).f3.f0)) ∧ w'.cell? ⟨gb265, 5, none⟩ = some (.int .i64 ((rd_T73 l0_3 x4_3).f3.f1)) ∧ w'.cell? ⟨gb265, 6, none⟩ = some (.int .i64 ((rd_T73 l0_3 x4_3).f4)) ∧ w'.cell? ⟨gb265, 7, none⟩ = some (.bool ((rd_T73 l0_3 x4_3).f5)) ∧ w'.cell? (ad264.add ((t267).toNat * 8)) = some (.string ((rd_T73 l0_3 t267).f0)) ∧ w'.cell? ⟨(ad264.add ((t267).toNat * 8)).block, (ad264.add ((t267).toNat * 8)).off + 1, none⟩ = some (.int .i64 ((rd_T73 l0_3 t267).f1.f0)) ∧ w'.cell? ⟨(ad264.add ((t267).toNat * 8)).block, (ad264.add ((t267).toNat * 8)).off + 2, none⟩ = some (.int .i64 ((rd_T73 l0_3 t267).f1.f1)) ∧ w'.cell? ⟨(ad264.add ((t267).toNat * 8)).block, (ad264.add ((t267).toNat * 8)).off + 3, none⟩ = some (.int .i64 ((rd_T73 l0_3 t267).f2)) ∧ w'.cell? ⟨(ad264.add ((t267).toNat * 8)).block, (ad264.add ((t267).toNat * 8)).off + 4, none⟩ = some (.int .i64 ((rd_T73 l0_3 t267).f3.f0)) ∧ w'.cell? ⟨(ad264.add ((t267).toNat * 8)).block, (ad264.add ((t267).toNat * 8)).off + 5, none⟩ = some (.int .i64 ((rd_T73 l0_3 t267).f3.f1)) ∧ w'.cell? ⟨(ad264.add ((t267).toNat * 8)).block, (ad264.add ((t267).toNat * 8)).off + 6, none⟩ = some (.int .i64 ((rd_T73 l0_3 t267).f4)) ∧ w'.cell? ⟨(ad264.add ((t267).toNat * 8)).block, (ad264.add ((t267).toNat * 8)).off + 7, none⟩ = some (.bool ((rd_T73 l0_3 t267).f5)) ∧ w'.cell? (ad264.add ((t267).toNat * 8)) = some (.string ((rd_T73 l0_3 t267).f0)) ∧ w'.cell? ⟨(ad264.add ((t267).toNat * 8)).block, (ad264.add ((t267).toNat * 8)).off + 1, none⟩ = some (.int .i64 ((rd_T73 l0_3 t267).f1.f0)) ∧ w'.cell? ⟨(ad264.add ((t267).toNat * 8)).block, (ad264.add ((t267).toNat * 8)).off + 2, none⟩ = some (.int .i64 ((rd_T73 l0_3 t267).f1.f1)) ∧ w'.cell? ⟨(ad264.add ((t267).toNat * 8)).block, (ad264.add ((t267).toNat * 8)).off + 3, none⟩ = some (.int .i64 ((rd_T73 l0_3 t267).f2)) ∧ w'.cell? ⟨(ad264.add ((t267).toNat * 8)).block, (ad264.add ((t267).toNat * 8)).off + 4, none⟩ = some (.int .i64 ((rd_T73 l0_3 t267).f3.f0)) ∧ w'.cell? ⟨(ad264.add ((t267).toNat * 8)).block, (ad264.add ((t267).toNat * 8)).off + 5, none⟩ = some (.int .i64 ((rd_T73 l0_3 t267).f3.f1)) ∧ w'.cell? ⟨(ad264.add ((t267).toNat * 8)).block, (ad264.add ((t267).toNat * 8)).off + 6, none⟩ = some (.int .i64 ((rd_T73 l0_3 t267).f4)) ∧ w'.cell? ⟨(ad264.add ((t267).toNat * 8)).block, (ad264.add ((t267).toNat * 8)).off + 7, none⟩ = some (.bool ((rd_T73 l0_3 t267).f5))) (ds := []) mk11_11 z11_8 rfl rfl ⟨bc_ BK257 0, bc_ BK257 1, bc_ BK257 2, bc_ BK257 3, bc_ BK265 0, bc_ BK265 1, bc_ BK265 2, bc_ BK265 3, bc_ BK265 4, bc_ BK265 5, bc_ BK265 6, bc_ BK265 7, (cb_ HB hw268_0), (cb_ HB hw268_1), (cb_ HB hw268_2), (cb_ HB hw268_3), (cb_ HB hw268_4), (cb_ HB hw268_5), (cb_ HB hw268_6), (cb_ HB hw268_7), (cb_ HB hw269_0), (cb_ HB hw269_1), (cb_ HB hw269_2), (cb_ HB hw269_3), (cb_ HB hw269_4), (cb_ HB hw269_5), (cb_ HB hw269_6), (cb_ HB hw269_7)⟩ (fun hHeld => ?_); refine with_tabW spec_StateOk.tab16 spec_StateOk.bits16 (fun HT_ HW_ => ?_)
                  generalize w72.drew = w73 at BK257 BK265 HB hx268_0 hx268_1 hx268_2 hx268_3 hx268_4 hx268_5 hx268_6 hx268_7 hx269_0 hx269_1 hx269_2 hx269_3 hx269_4 hx269_5 hx269_6 hx269_7 hHeld ⊢
                  refine p_ (i := 0) (N := some 72) mk11_12 ?_ (hv := z11_6) (ha := z11_1)
                  refine p_ (i := 1) (N := some 73) mk11_13 ?_ (hv := z11_6) (ha := z11_1)
                  refine p_ (i := 2) (N := some 74) mk11_14 ?_ (hv := z11_6) (ha := z11_1)
                  refine p_ (i := 3) (N := some 75) mk11_15 ?_ (hv := z11_6) (ha := z11_1)
                  refine p_ (i := 5) (N := some 77) mk11_36 ?_ (hv := z11_6) (ha := z11_1)
                  refine p_ (i := 9) (N := some 81) mk11_37 ?_ (hv := z11_6) (ha := z11_1)
                  refine t_ (i := 4) (N := some 76) mk11_38 hHeld ?_ (hv := by rintro w' ⟨s0, s1, s2, s3, s4, s5, s6, s7, s8, s9, s10, s11, s12, s13, s14, s15, s16, s17, s18, s19, s20, s21, s22, s23, s24, s25, s26, s27⟩; go_simp; with_reducible rfl) (ha := z11_1)
                  refine p_ (i := 6) (N := some 78) mk11_39 ?_ (hv := z11_6) (ha := z11_1)
                  refine p_ (i := 7) (N := some 79) mk11_40 ?_ (hv := z11_6) (ha := z11_1)
                  refine t_ (i := 8) (N := some 80) mk11_21 hHeld ?_ (hv := by rintro w' ⟨s0, s1, s2, s3, s4, s5, s6, s7, s8, s9, s10, s11, s12, s13, s14, s15, s16, s17, s18, s19, s20, s21, s22, s23, s24, s25, s26, s27⟩; go_simp; with_reducible rfl) (ha := z11_1)
                  refine t_ (i := 10) (N := some 82) mk11_22 hHeld ?_ (hv := by rintro w' ⟨s0, s1, s2, s3, s4, s5, s6, s7, s8, s9, s10, s11, s12, s13, s14, s15, s16, s17, s18, s19, s20, s21, s22, s23, s24, s25, s26, s27⟩; go_simp; with_reducible rfl) (ha := z11_1)
                  refine p_ (i := 11) (N := some 83) mk11_23 ?_ (hv := z11_6) (ha := z11_1)
                  refine p_ (i := 12) (N := some 84) mk11_24 ?_ (hv := z11_6) (ha := z11_1)
                  refine p_ (i := 13) (N := some 85) mk11_25 ?_ (hv := z11_6) (ha := z11_1)
                  refine p_ (i := 14) (N := some 86) mk11_26 ?_ (hv := z11_6) (ha := z11_1)
                  refine p_ (i := 16) (N := some 88) mk11_41 ?_ (hv := z11_6) (ha := z11_1)
                  refine p_ (i := 20) (N := some 92) mk11_42 ?_ (hv := z11_6) (ha := z11_1)
                  refine t_ (i := 15) (N := some 87) mk11_43 hHeld ?_ (hv := by rintro w' ⟨s0, s1, s2, s3, s4, s5, s6, s7, s8, s9, s10, s11, s12, s13, s14, s15, s16, s17, s18, s19, s20, s21, s22, s23, s24, s25, s26, s27⟩; go_simp; with_reducible rfl) (ha := z11_1)
                  refine p_ (i := 17) (N := some 89) mk11_44 ?_ (hv := z11_6) (ha := z11_1)
                  refine p_ (i := 18) (N := some 90) mk11_45 ?_ (hv := z11_6) (ha := z11_1)
                  refine t_ (i := 19) (N := some 91) mk11_32 hHeld ?_ (hv := by rintro w' ⟨s0, s1, s2, s3, s4, s5, s6, s7, s8, s9, s10, s11, s12, s13, s14, s15, s16, s17, s18, s19, s20, s21, s22, s23, s24, s25, s26, s27⟩; go_simp; with_reducible rfl) (ha := z11_1)
                  refine t_ (i := 21) (N := some 93) mk11_33 hHeld ?_ (hv := by rintro w' ⟨s0, s1, s2, s3, s4, s5, s6, s7, s8, s9, s10, s11, s12, s13, s14, s15, s16, s17, s18, s19, s20, s21, s22, s23, s24, s25, s26, s27⟩; go_simp; with_reducible rfl) (ha := z11_1)
                  refine p_ (i := 22) (N := some 94) mk11_34 ?_ (hv := z11_6) (ha := z11_1)
                  refine p_ (i := 23) (N := some 95) mk11_35 ?_ (hv := z11_6) (ha := z11_1)
                  refine done_ (done_of HT_.out z11_8) ?_
                  try go_wp2
                  go_ret
                  exact ⟨z11_10, z11_5⟩
                 ·
                  rw [if_neg c63] at H
                  have c63b0 : decide (((rd_T73 l0_3 x4_3).f2) ≤ ((rd_T73 l0_3 t267).f2)) = false := decide_eq_false c63
                  clear c63
                  have H' := Aside0.mk H
                  clear H
                  obtain ⟨hcz74_0, hcz74_1, hcz74_2, hcz74_3, hfz74_0, hfz74_1, hfz74_2, hfz74_3⟩ := bc4 BK257.out
                  have p264 : 0 ≤ (x4_3 : Int) := of_decide_eq_true z11_9
                  have q264 : x4_3 < (l0_3.length : Int) := of_decide_eq_true z11_9
                  obtain ⟨ad264, e264, hx264_0, hx264_1, hx264_2, hx264_3, hx264_4, hx264_5, hx264_6, hx264_7⟩ := at_T73 HR0_3.out x4_3 p264 q264
                  cases e264
                  replace hx264_0 := cb_ HB hx264_0
                  replace hx264_1 := cb_ HB hx264_1
                  replace hx264_2 := cb_ HB hx264_2
                  replace hx264_3 := cb_ HB hx264_3
                  replace hx264_4 := cb_ HB hx264_4
                  replace hx264_5 := cb_ HB hx264_5
                  replace hx264_6 := cb_ HB hx264_6
                  replace hx264_7 := cb_ HB hx264_7
                  replace p264 := eq_true p264
                  replace q264 := eq_true q264
                  try go_wp2_with (first | ((with_reducible refine gate_dst (N := 5) rfl ?_); refine box_event ?hg (N := 5) ?hd (cs := #[.string (⟨#[]⟩ : ByteArray), .int .i64 0, .int .i64 0, .int .i64 0, .int .i64 0, .int .i64 0, .int .i64 0, .bool false]) (t := 73) ?hr ?_; (case hd => rfl); (case hg => rfl); (case hr => first | (go_simp; done) | (go_simp; rfl)); intro gb265 hg w75 hbox hb; have BK265 := Aside0.mk (hbox); have GW265 := gw_ w z11_2 hg; have GE265 := gw_ w z11_2 hg; replace HB := Aside0.mk (below_step z11_2 hb); have NB257_265 := Aside0.mk ((by rw [hg]; exact Nat.ne_of_lt (blk_lt (g := gb257) (o := .cells #[.slice A0_0 l0_0.length c0_0, .slice A0_1 l0_1.length c0_1, .slice A0_2 l0_2.length c0_2, .slice (some ad264) l0_3.length c0_3] 36 (0, 0)) z11_4) : gb257 ≠ gb265)); have NB265_257 := Aside0.mk ((by rw [hg]; exact Nat.ne_of_gt (blk_lt (g := gb257) (o := .cells #[.slice A0_0 l0_0.length c0_0, .slice A0_1 l0_1.length c0_1, .slice A0_2 l0_2.length c0_2, .slice (some ad264) l0_3.length c0_3] 36 (0, 0)) z11_4) : gb265 ≠ gb257)); replace BK257 := Aside0.mk (blk_below (g := gb257) (o := .cells #[.slice A0_0 l0_0.length c0_0, .slice A0_1 l0_1.length c0_1, .slice A0_2 l0_2.length c0_2, .slice (some ad264) l0_3.length c0_3] 36 (0, 0)) z11_4 hb); clear hb hbox hg; have hnb76 := NB265_257.out; have hnc76 := NB257_265.out; obtain ⟨hcz77_0, hcz77_1, hcz77_2, hcz77_3, hcz77_4, hcz77_5, hcz77_6, hcz77_7, hfz77_0, hfz77_1, hfz77_2, hfz77_3, hfz77_4, hfz77_5, hfz77_6, hfz77_7⟩ := bc8 BK265.out; obtain ⟨hcz78_0, hcz78_1, hcz78_2, hcz78_3, hfz78_0, hfz78_1, hfz78_2, hfz78_3⟩ := bc4 BK257.out) | ((with_reducible refine gate_callee (f := 60) rfl ?_); refine goesL_ (some 62) rfl rfl Try.func60 z11_8 rfl #[.slice A0_0 l0_0.length c0_0, .agg #[.int .i64 ((rd_T73 l0_3 x4_3).f1.f0), .int .i64 ((rd_T73 l0_3 x4_3).f1.f1)]] rfl z11_7 ?_; (with_reducible refine (spec_Knows.calls k3 _ _ l0_0 ((rd_T73 l0_3 x4_3).f1.f0) ((rd_T73 l0_3 x4_3).f1.f1) true _ ?side1 ?side2 A38.out).mono ?_); (case side1 => exact Kd.C_below HR0_0.out z11_5); (case side2 => exact HC0_0.out); rintro e w79 ⟨rfl, hb⟩; refine ⟨_, rfl, ?_⟩; replace BK257 := Aside0.mk (blk_below (g := gb257) (o := .cells #[.slice A0_0 l0_0.length c0_0, .slice A0_1 l0_1.length c0_1, .slice A0_2 l0_2.length c0_2, .slice (some ad264) l0_3.length c0_3] 36 (0, 0)) z11_3 hb); replace BK265 := Aside0.mk (blk_below (g := gb265) (o := .cells #[.string ((rd_T73 l0_3 x4_3).f0), .int .i64 ((rd_T73 l0_3 x4_3).f1.f0), .int .i64 ((rd_T73 l0_3 x4_3).f1.f1), .int .i64 ((rd_T73 l0_3 x4_3).f2), .int .i64 ((rd_T73 l0_3 x4_3).f3.f0), .int .i64 ((rd_T73 l0_3 x4_3).f3.f1), .int .i64 ((rd_T73 l0_3 x4_3).f4), .bool ((rd_T73 l0_3 x4_3).f5)] 73 (0, 0)) z11_0 hb); replace HB := Aside0.mk (below_step z11_5 hb); obtain ⟨hcz80_0, hcz80_1, hcz80_2, hcz80_3, hcz80_4, hcz80_5, hcz80_6, hcz80_7, hfz80_0, hfz80_1, hfz80_2, hfz80_3, hfz80_4, hfz80_5, hfz80_6, hfz80_7⟩ := bc8 BK265.out; obtain ⟨hcz81_0, hcz81_1, hcz81_2, hcz81_3, hfz81_0, hfz81_1, hfz81_2, hfz81_3⟩ := bc4 BK257.out) | ((with_reducible refine gate_callee (f := 10) rfl ?_); refine goesL_ (some 71) rfl rfl Try.func10 z11_8 rfl #[.agg #[.slice A0_0 l0_0.length c0_0, .slice A0_1 l0_1.length c0_1, .slice A0_2 l0_2.length c0_2, .slice (some ad264) l0_3.length c0_3], .agg #[.int .i64 ((rd_T73 l0_3 x4_3).f3.f0), .int .i64 ((rd_T73 l0_3 x4_3).f3.f1)]] rfl z11_7 ?_; (with_reducible refine (spec_CellAt.calls k3 _ _ l0_0 _ _ l0_1 _ _ l0_2 _ _ l0_3 ((rd_T73 l0_3 x4_3).f3.f0) ((rd_T73 l0_3 x4_3).f3.f1) t267 _ ?side1 ?side2 ?side3 ?side4 ?side5 ?side6 ?side7 ?side8 A48.out).mono ?_); (case side1 => repeat (first | exact (Kd.C_below HR0_0.out HB.out) | (with_reducible refine Kd.C_alloc ?_ _) | (with_reducible refine Kd.C_drewN ?_ _) | (with_reducible refine Kd.C_drew ?_))); (case side2 => exact HC0_0.out); (case side3 => repeat (first | exact (Kd.C_below HR0_1.out HB.out) | (with_reducible refine Kd.C_alloc ?_ _) | (with_reducible refine Kd.C_drewN ?_ _) | (with_reducible refine Kd.C_drew ?_))); (case side4 => exact HC0_1.out); (case side5 => repeat (first | exact (Kd.C_below HR0_2.out HB.out) | (with_reducible refine Kd.C_alloc ?_ _) | (with_reducible refine Kd.C_drewN ?_ _) | (with_reducible refine Kd.C_drew ?_))); (case side6 => exact HC0_2.out); (case side7 => repeat (first | exact (Kd.C_below HR0_3.out HB.out) | (with_reducible refine Kd.C_alloc ?_ _) | (with_reducible refine Kd.C_drewN ?_ _) | (with_reducible refine Kd.C_drew ?_))); (case side8 => exact HC0_3.out); rintro e w82 ⟨rfl, hb⟩; refine ⟨_, rfl, ?_⟩; replace BK257 := Aside0.mk (blk_below (g := gb257) (o := .cells #[.slice A0_0 l0_0.length c0_0, .slice A0_1 l0_1.length c0_1, .slice A0_2 l0_2.length c0_2, .slice (some ad264) l0_3.length c0_3] 36 (0, 0)) z11_4 hb); replace BK265 := Aside0.mk (blk_below (g := gb265) (o := .cells #[.string ((rd_T73 l0_3 x4_3).f0), .int .i64 ((rd_T73 l0_3 x4_3).f1.f0), .int .i64 ((rd_T73 l0_3 x4_3).f1.f1), .int .i64 ((rd_T73 l0_3 x4_3).f2), .int .i64 ((rd_T73 l0_3 x4_3).f3.f0), .int .i64 ((rd_T73 l0_3 x4_3).f3.f1), .int .i64 ((rd_T73 l0_3 x4_3).f4), .bool ((rd_T73 l0_3 x4_3).f5)] 73 (0, 0)) z11_12 hb); replace HB := Aside0.mk (below_step z11_5 hb)))
                  replace BK257 := Aside0.mk (blk_drew BK257.out)
                  replace BK265 := Aside0.mk (blk_drew BK265.out)
                  replace HB := Aside0.mk (below_drew1 HB.out)
                  have p268 : 0 ≤ (t267 : Int) := of_decide_eq_true z11_9
                  have q268 : t267 < (l0_3.length : Int) := of_decide_eq_true z11_9
                  obtain ⟨ad268, e268, hx268_0, hx268_1, hx268_2, hx268_3, hx268_4, hx268_5, hx268_6, hx268_7⟩ := at_T73 HR0_3.out t267 p268 q268
                  have hw268_7 := hx268_7
                  have hw268_6 := hx268_6
                  have hw268_5 := hx268_5
                  have hw268_4 := hx268_4
                  have hw268_3 := hx268_3
                  have hw268_2 := hx268_2
                  have hw268_1 := hx268_1
                  have hw268_0 := hx268_0
                  obtain rfl : ad264 = ad268 := (by injection e268)
                  replace hx268_0 := cb_ HB hx268_0
                  replace hx268_1 := cb_ HB hx268_1
                  replace hx268_2 := cb_ HB hx268_2
                  replace hx268_3 := cb_ HB hx268_3
                  replace hx268_4 := cb_ HB hx268_4
                  replace hx268_5 := cb_ HB hx268_5
                  replace hx268_6 := cb_ HB hx268_6
                  replace hx268_7 := cb_ HB hx268_7
                  replace p268 := eq_true p268
                  replace q268 := eq_true q268
                  have p269 : 0 ≤ (t267 : Int) := of_decide_eq_true z11_9
                  have q269 : t267 < (l0_3.length : Int) := of_decide_eq_true z11_9
                  obtain ⟨ad269, e269, hx269_0, hx269_1, hx269_2, hx269_3, hx269_4, hx269_5, hx269_6, hx269_7⟩ := at_T73 HR0_3.out t267 p269 q269
                  have hw269_7 := hx269_7
                  have hw269_6 := hx269_6
                  have hw269_5 := hx269_5
                  have hw269_4 := hx269_4
                  have hw269_3 := hx269_3
                  have hw269_2 := hx269_2
                  have hw269_1 := hx269_1
                  have hw269_0 := hx269_0
                  obtain rfl : ad264 = ad269 := (by injection e269)
                  replace hx269_0 := cb_ HB hx269_0
                  replace hx269_1 := cb_ HB hx269_1
                  replace hx269_2 := cb_ HB hx269_2
                  replace hx269_3 := cb_ HB hx269_3
                  replace hx269_4 := cb_ HB hx269_4
                  replace hx269_5 := cb_ HB hx269_5
                  replace hx269_6 := cb_ HB hx269_6
                  replace hx269_7 := cb_ HB hx269_7
                  replace p269 := eq_true p269
                  replace q269 := eq_true q269
                  refine start_ (n := 24) (S := fun w' => w'.cell? ⟨gb257, 0, none⟩ = some (.slice A0_0 l0_0.length c0_0) ∧ w'.cell? ⟨gb257, 1, none⟩ = some (.slice A0_1 l0_1.length c0_1) ∧ w'.cell? ⟨gb257, 2, none⟩ = some (.slice A0_2 l0_2.length c0_2) ∧ w'.cell? ⟨gb257, 3, none⟩ = some (.slice (some ad264) l0_3.length c0_3) ∧ w'.cell? ⟨gb265, 0, none⟩ = some (.string ((rd_T73 l0_3 x4_3).f0)) ∧ w'.cell? ⟨gb265, 1, none⟩ = some (.int .i64 ((rd_T73 l0_3 x4_3).f1.f0)) ∧ w'.cell? ⟨gb265, 2, none⟩ = some (.int .i64 ((rd_T73 l0_3 x4_3).f1.f1)) ∧ w'.cell? ⟨gb265, 3, none⟩ = some (.int .i64 ((rd_T73 l0_3 x4_3).f2)) ∧ w'.cell? ⟨gb265, 4, none⟩ = some (.int .i64 ((rd_T73 l0_3 x4_3).f3.f0)) ∧ w'.cell? ⟨gb265, 5, none⟩ = some (.int .i64 ((rd_T73 l0_3 x4_3).f3.f1)) ∧ w'.cell? ⟨gb265, 6, none⟩ = some (.int .i64 ((rd_T73 l0_3 x4_3).f4)) ∧ w'.cell? ⟨gb265, 7, none⟩ = some (.bool ((rd_T73 l0_3 x4_3).f5)) ∧ w'.cell? (ad264.add ((t267).toNat * 8)) = some (.string ((rd_T73 l0_3 t267).f0)) ∧ w'.cell? ⟨(ad264.add ((t267).toNat * 8)).block, (ad264.add ((t267).toNat * 8)).off + 1, none⟩ = some (.int .i64 ((rd_T73 l0_3 t267).f1.f0)) ∧ w'.cell? ⟨(ad264.add ((t267).toNat * 8)).block, (ad264.add ((t267).toNat * 8)).off + 2, none⟩ = some (.int .i64 ((rd_T73 l0_3 t267).f1.f1)) ∧ w'.cell? ⟨(ad264.add ((t267).toNat * 8)).block, (ad264.add ((t267).toNat * 8)).off + 3, none⟩ = some (.int .i64 ((rd_T73 l0_3 t267).f2)) ∧ w'.cell? ⟨(ad264.add ((t267).toNat * 8)).block, (ad264.add ((t267).toNat * 8)).off + 4, none⟩ = some (.int .i64 ((rd_T73 l0_3 t267).f3.f0)) ∧ w'.cell? ⟨(ad264.add ((t267).toNat * 8)).block, (ad264.add ((t267).toNat * 8)).off + 5, none⟩ = some (.int .i64 ((rd_T73 l0_3 t267).f3.f1)) ∧ w'.cell? ⟨(ad264.add ((t267).toNat * 8)).block, (ad264.add ((t267).toNat * 8)).off + 6, none⟩ = some (.int .i64 ((rd_T73 l0_3 t267).f4)) ∧ w'.cell? ⟨(ad264.add ((t267).toNat * 8)).block, (ad264.add ((t267).toNat * 8)).off + 7, none⟩ = some (.bool ((rd_T73 l0_3 t267).f5)) ∧ w'.cell? (ad264.add ((t267).toNat * 8)) = some (.string ((rd_T73 l0_3 t267).f0)) ∧ w'.cell? ⟨(ad264.add ((t267).toNat * 8)).block, (ad264.add ((t267).toNat * 8)).off + 1, none⟩ = some (.int .i64 ((rd_T73 l0_3 t267).f1.f0)) ∧ w'.cell? ⟨(ad264.add ((t267).toNat * 8)).block, (ad264.add ((t267).toNat * 8)).off + 2, none⟩ = some (.int .i64 ((rd_T73 l0_3 t267).f1.f1)) ∧ w'.cell? ⟨(ad264.add ((t267).toNat * 8)).block, (ad264.add ((t267).toNat * 8)).off + 3, none⟩ = some (.int .i64 ((rd_T73 l0_3 t267).f2)) ∧ w'.cell? ⟨(ad264.add ((t267).toNat * 8)).block, (ad264.add ((t267).toNat * 8)).off + 4, none⟩ = some (.int .i64 ((rd_T73 l0_3 t267).f3.f0)) ∧ w'.cell? ⟨(ad264.add ((t267).toNat * 8)).block, (ad264.add ((t267).toNat * 8)).off + 5, none⟩ = some (.int .i64 ((rd_T73 l0_3 t267).f3.f1)) ∧ w'.cell? ⟨(ad264.add ((t267).toNat * 8)).block, (ad264.add ((t267).toNat * 8)).off + 6, none⟩ = some (.int .i64 ((rd_T73 l0_3 t267).f4)) ∧ w'.cell? ⟨(ad264.add ((t267).toNat * 8)).block, (ad264.add ((t267).toNat * 8)).off + 7, none⟩ = some (.bool ((rd_T73 l0_3 t267).f5))) (ds := []) mk11_11 z11_8 rfl rfl ⟨bc_ BK257 0, bc_ BK257 1, bc_ BK257 2, bc_ BK257 3, bc_ BK265 0, bc_ BK265 1, bc_ BK265 2, bc_ BK265 3, bc_ BK265 4, bc_ BK265 5, bc_ BK265 6, bc_ BK265 7, (cb_ HB hw268_0), (cb_ HB hw268_1), (cb_ HB hw268_2), (cb_ HB hw268_3), (cb_ HB hw268_4), (cb_ HB hw268_5), (cb_ HB hw268_6), (cb_ HB hw268_7), (cb_ HB hw269_0), (cb_ HB hw269_1), (cb_ HB hw269_2), (cb_ HB hw269_3), (cb_ HB hw269_4), (cb_ HB hw269_5), (cb_ HB hw269_6), (cb_ HB hw269_7)⟩ (fun hHeld => ?_); refine with_tabW spec_StateOk.tab16 spec_StateOk.bits16 (fun HT_ HW_ => ?_)
                  generalize w82.drew = w83 at BK257 BK265 HB hx268_0 hx268_1 hx268_2 hx268_3 hx268_4 hx268_5 hx268_6 hx268_7 hx269_0 hx269_1 hx269_2 hx269_3 hx269_4 hx269_5 hx269_6 hx269_7 hHeld ⊢
                  refine p_ (i := 0) (N := some 72) mk11_12 ?_ (hv := z11_6) (ha := z11_1)
                  refine p_ (i := 1) (N := some 73) mk11_13 ?_ (hv := z11_6) (ha := z11_1)
                  refine p_ (i := 2) (N := some 74) mk11_14 ?_ (hv := z11_6) (ha := z11_1)
                  refine p_ (i := 3) (N := some 75) mk11_15 ?_ (hv := z11_6) (ha := z11_1)
                  refine p_ (i := 5) (N := some 77) mk11_36 ?_ (hv := z11_6) (ha := z11_1)
                  refine p_ (i := 9) (N := some 81) mk11_37 ?_ (hv := z11_6) (ha := z11_1)
                  refine t_ (i := 4) (N := some 76) mk11_38 hHeld ?_ (hv := by rintro w' ⟨s0, s1, s2, s3, s4, s5, s6, s7, s8, s9, s10, s11, s12, s13, s14, s15, s16, s17, s18, s19, s20, s21, s22, s23, s24, s25, s26, s27⟩; go_simp; with_reducible rfl) (ha := z11_1)
                  refine p_ (i := 6) (N := some 78) mk11_39 ?_ (hv := z11_6) (ha := z11_1)
                  refine p_ (i := 7) (N := some 79) mk11_40 ?_ (hv := z11_6) (ha := z11_1)
                  refine t_ (i := 8) (N := some 80) mk11_21 hHeld ?_ (hv := by rintro w' ⟨s0, s1, s2, s3, s4, s5, s6, s7, s8, s9, s10, s11, s12, s13, s14, s15, s16, s17, s18, s19, s20, s21, s22, s23, s24, s25, s26, s27⟩; go_simp; with_reducible rfl) (ha := z11_1)
                  refine t_ (i := 10) (N := some 82) mk11_22 hHeld ?_ (hv := by rintro w' ⟨s0, s1, s2, s3, s4, s5, s6, s7, s8, s9, s10, s11, s12, s13, s14, s15, s16, s17, s18, s19, s20, s21, s22, s23, s24, s25, s26, s27⟩; go_simp; with_reducible rfl) (ha := z11_1)
                  refine p_ (i := 11) (N := some 83) mk11_23 ?_ (hv := z11_6) (ha := z11_1)
                  refine p_ (i := 12) (N := some 84) mk11_24 ?_ (hv := z11_6) (ha := z11_1)
                  refine p_ (i := 13) (N := some 85) mk11_25 ?_ (hv := z11_6) (ha := z11_1)
                  refine p_ (i := 14) (N := some 86) mk11_26 ?_ (hv := z11_6) (ha := z11_1)
                  refine p_ (i := 16) (N := some 88) mk11_41 ?_ (hv := z11_6) (ha := z11_1)
                  refine p_ (i := 20) (N := some 92) mk11_42 ?_ (hv := z11_6) (ha := z11_1)
                  refine t_ (i := 15) (N := some 87) mk11_43 hHeld ?_ (hv := by rintro w' ⟨s0, s1, s2, s3, s4, s5, s6, s7, s8, s9, s10, s11, s12, s13, s14, s15, s16, s17, s18, s19, s20, s21, s22, s23, s24, s25, s26, s27⟩; go_simp; with_reducible rfl) (ha := z11_1)
                  refine p_ (i := 17) (N := some 89) mk11_44 ?_ (hv := z11_6) (ha := z11_1)
                  refine p_ (i := 18) (N := some 90) mk11_45 ?_ (hv := z11_6) (ha := z11_1)
                  refine t_ (i := 19) (N := some 91) mk11_32 hHeld ?_ (hv := by rintro w' ⟨s0, s1, s2, s3, s4, s5, s6, s7, s8, s9, s10, s11, s12, s13, s14, s15, s16, s17, s18, s19, s20, s21, s22, s23, s24, s25, s26, s27⟩; go_simp; with_reducible rfl) (ha := z11_1)
                  refine t_ (i := 21) (N := some 93) mk11_33 hHeld ?_ (hv := by rintro w' ⟨s0, s1, s2, s3, s4, s5, s6, s7, s8, s9, s10, s11, s12, s13, s14, s15, s16, s17, s18, s19, s20, s21, s22, s23, s24, s25, s26, s27⟩; go_simp; with_reducible rfl) (ha := z11_1)
                  refine p_ (i := 22) (N := some 94) mk11_34 ?_ (hv := z11_6) (ha := z11_1)
                  refine p_ (i := 23) (N := some 95) mk11_35 ?_ (hv := z11_6) (ha := z11_1)
                  refine done_ (done_of HT_.out z11_8) ?_
                  try go_wp2
                  go_roundg k3
                  case measure => have := HJ1.out; have := HK2.out; have := HK3.out; omega
                  case rel => exact ⟨(wrap64 (x4_3 + 1)), z11_11, H', ⟨by have := HJ1.out; have := HK2.out; have := HK3.out; omega⟩, ⟨z11_4⟩, ⟨z11_5⟩⟩
                ·
                 rw [if_neg c62] at H
                 have c62b0 : (((rd_T73 l0_3 t267).f0).toList == ((rd_T73 l0_3 x4_3).f0).toList) = false := beq_eq_false_iff_ne.mpr c62
                 have c62b1 : (((rd_T73 l0_3 t267).f0).toList != ((rd_T73 l0_3 x4_3).f0).toList) = true := bne_iff_ne.mpr c62
                 obtain rfl := Option.some.inj H
                 obtain ⟨hcz84_0, hcz84_1, hcz84_2, hcz84_3, hfz84_0, hfz84_1, hfz84_2, hfz84_3⟩ := bc4 BK257.out
                 have p264 : 0 ≤ (x4_3 : Int) := of_decide_eq_true z11_9
                 have q264 : x4_3 < (l0_3.length : Int) := of_decide_eq_true z11_9
                 obtain ⟨ad264, e264, hx264_0, hx264_1, hx264_2, hx264_3, hx264_4, hx264_5, hx264_6, hx264_7⟩ := at_T73 HR0_3.out x4_3 p264 q264
                 cases e264
                 replace hx264_0 := cb_ HB hx264_0
                 replace hx264_1 := cb_ HB hx264_1
                 replace hx264_2 := cb_ HB hx264_2
                 replace hx264_3 := cb_ HB hx264_3
                 replace hx264_4 := cb_ HB hx264_4
                 replace hx264_5 := cb_ HB hx264_5
                 replace hx264_6 := cb_ HB hx264_6
                 replace hx264_7 := cb_ HB hx264_7
                 replace p264 := eq_true p264
                 replace q264 := eq_true q264
                 try go_wp2_with (first | ((with_reducible refine gate_dst (N := 5) rfl ?_); refine box_event ?hg (N := 5) ?hd (cs := #[.string (⟨#[]⟩ : ByteArray), .int .i64 0, .int .i64 0, .int .i64 0, .int .i64 0, .int .i64 0, .int .i64 0, .bool false]) (t := 73) ?hr ?_; (case hd => rfl); (case hg => rfl); (case hr => first | (go_simp; done) | (go_simp; rfl)); intro gb265 hg w85 hbox hb; have BK265 := Aside0.mk (hbox); have GW265 := gw_ w z11_2 hg; have GE265 := gw_ w z11_2 hg; replace HB := Aside0.mk (below_step z11_2 hb); have NB257_265 := Aside0.mk ((by rw [hg]; exact Nat.ne_of_lt (blk_lt (g := gb257) (o := .cells #[.slice A0_0 l0_0.length c0_0, .slice A0_1 l0_1.length c0_1, .slice A0_2 l0_2.length c0_2, .slice (some ad264) l0_3.length c0_3] 36 (0, 0)) z11_4) : gb257 ≠ gb265)); have NB265_257 := Aside0.mk ((by rw [hg]; exact Nat.ne_of_gt (blk_lt (g := gb257) (o := .cells #[.slice A0_0 l0_0.length c0_0, .slice A0_1 l0_1.length c0_1, .slice A0_2 l0_2.length c0_2, .slice (some ad264) l0_3.length c0_3] 36 (0, 0)) z11_4) : gb265 ≠ gb257)); replace BK257 := Aside0.mk (blk_below (g := gb257) (o := .cells #[.slice A0_0 l0_0.length c0_0, .slice A0_1 l0_1.length c0_1, .slice A0_2 l0_2.length c0_2, .slice (some ad264) l0_3.length c0_3] 36 (0, 0)) z11_4 hb); clear hb hbox hg; have hnb86 := NB265_257.out; have hnc86 := NB257_265.out; obtain ⟨hcz87_0, hcz87_1, hcz87_2, hcz87_3, hcz87_4, hcz87_5, hcz87_6, hcz87_7, hfz87_0, hfz87_1, hfz87_2, hfz87_3, hfz87_4, hfz87_5, hfz87_6, hfz87_7⟩ := bc8 BK265.out; obtain ⟨hcz88_0, hcz88_1, hcz88_2, hcz88_3, hfz88_0, hfz88_1, hfz88_2, hfz88_3⟩ := bc4 BK257.out) | ((with_reducible refine gate_callee (f := 60) rfl ?_); refine goesL_ (some 62) rfl rfl Try.func60 z11_8 rfl #[.slice A0_0 l0_0.length c0_0, .agg #[.int .i64 ((rd_T73 l0_3 x4_3).f1.f0), .int .i64 ((rd_T73 l0_3 x4_3).f1.f1)]] rfl z11_7 ?_; (with_reducible refine (spec_Knows.calls k3 _ _ l0_0 ((rd_T73 l0_3 x4_3).f1.f0) ((rd_T73 l0_3 x4_3).f1.f1) true _ ?side1 ?side2 A38.out).mono ?_); (case side1 => exact Kd.C_below HR0_0.out z11_5); (case side2 => exact HC0_0.out); rintro e w89 ⟨rfl, hb⟩; refine ⟨_, rfl, ?_⟩; replace BK257 := Aside0.mk (blk_below (g := gb257) (o := .cells #[.slice A0_0 l0_0.length c0_0, .slice A0_1 l0_1.length c0_1, .slice A0_2 l0_2.length c0_2, .slice (some ad264) l0_3.length c0_3] 36 (0, 0)) z11_3 hb); replace BK265 := Aside0.mk (blk_below (g := gb265) (o := .cells #[.string ((rd_T73 l0_3 x4_3).f0), .int .i64 ((rd_T73 l0_3 x4_3).f1.f0), .int .i64 ((rd_T73 l0_3 x4_3).f1.f1), .int .i64 ((rd_T73 l0_3 x4_3).f2), .int .i64 ((rd_T73 l0_3 x4_3).f3.f0), .int .i64 ((rd_T73 l0_3 x4_3).f3.f1), .int .i64 ((rd_T73 l0_3 x4_3).f4), .bool ((rd_T73 l0_3 x4_3).f5)] 73 (0, 0)) z11_0 hb); replace HB := Aside0.mk (below_step z11_5 hb); obtain ⟨hcz90_0, hcz90_1, hcz90_2, hcz90_3, hcz90_4, hcz90_5, hcz90_6, hcz90_7, hfz90_0, hfz90_1, hfz90_2, hfz90_3, hfz90_4, hfz90_5, hfz90_6, hfz90_7⟩ := bc8 BK265.out; obtain ⟨hcz91_0, hcz91_1, hcz91_2, hcz91_3, hfz91_0, hfz91_1, hfz91_2, hfz91_3⟩ := bc4 BK257.out) | ((with_reducible refine gate_callee (f := 10) rfl ?_); refine goesL_ (some 71) rfl rfl Try.func10 z11_8 rfl #[.agg #[.slice A0_0 l0_0.length c0_0, .slice A0_1 l0_1.length c0_1, .slice A0_2 l0_2.length c0_2, .slice (some ad264) l0_3.length c0_3], .agg #[.int .i64 ((rd_T73 l0_3 x4_3).f3.f0), .int .i64 ((rd_T73 l0_3 x4_3).f3.f1)]] rfl z11_7 ?_; (with_reducible refine (spec_CellAt.calls k3 _ _ l0_0 _ _ l0_1 _ _ l0_2 _ _ l0_3 ((rd_T73 l0_3 x4_3).f3.f0) ((rd_T73 l0_3 x4_3).f3.f1) t267 _ ?side1 ?side2 ?side3 ?side4 ?side5 ?side6 ?side7 ?side8 A48.out).mono ?_); (case side1 => repeat (first | exact (Kd.C_below HR0_0.out HB.out) | (with_reducible refine Kd.C_alloc ?_ _) | (with_reducible refine Kd.C_drewN ?_ _) | (with_reducible refine Kd.C_drew ?_))); (case side2 => exact HC0_0.out); (case side3 => repeat (first | exact (Kd.C_below HR0_1.out HB.out) | (with_reducible refine Kd.C_alloc ?_ _) | (with_reducible refine Kd.C_drewN ?_ _) | (with_reducible refine Kd.C_drew ?_))); (case side4 => exact HC0_1.out); (case side5 => repeat (first | exact (Kd.C_below HR0_2.out HB.out) | (with_reducible refine Kd.C_alloc ?_ _) | (with_reducible refine Kd.C_drewN ?_ _) | (with_reducible refine Kd.C_drew ?_))); (case side6 => exact HC0_2.out); (case side7 => repeat (first | exact (Kd.C_below HR0_3.out HB.out) | (with_reducible refine Kd.C_alloc ?_ _) | (with_reducible refine Kd.C_drewN ?_ _) | (with_reducible refine Kd.C_drew ?_))); (case side8 => exact HC0_3.out); rintro e w92 ⟨rfl, hb⟩; refine ⟨_, rfl, ?_⟩; replace BK257 := Aside0.mk (blk_below (g := gb257) (o := .cells #[.slice A0_0 l0_0.length c0_0, .slice A0_1 l0_1.length c0_1, .slice A0_2 l0_2.length c0_2, .slice (some ad264) l0_3.length c0_3] 36 (0, 0)) z11_4 hb); replace BK265 := Aside0.mk (blk_below (g := gb265) (o := .cells #[.string ((rd_T73 l0_3 x4_3).f0), .int .i64 ((rd_T73 l0_3 x4_3).f1.f0), .int .i64 ((rd_T73 l0_3 x4_3).f1.f1), .int .i64 ((rd_T73 l0_3 x4_3).f2), .int .i64 ((rd_T73 l0_3 x4_3).f3.f0), .int .i64 ((rd_T73 l0_3 x4_3).f3.f1), .int .i64 ((rd_T73 l0_3 x4_3).f4), .bool ((rd_T73 l0_3 x4_3).f5)] 73 (0, 0)) z11_12 hb); replace HB := Aside0.mk (below_step z11_5 hb)))
                 replace BK257 := Aside0.mk (blk_drew BK257.out)
                 replace BK265 := Aside0.mk (blk_drew BK265.out)
                 replace HB := Aside0.mk (below_drew1 HB.out)
                 have p268 : 0 ≤ (t267 : Int) := of_decide_eq_true z11_9
                 have q268 : t267 < (l0_3.length : Int) := of_decide_eq_true z11_9
                 obtain ⟨ad268, e268, hx268_0, hx268_1, hx268_2, hx268_3, hx268_4, hx268_5, hx268_6, hx268_7⟩ := at_T73 HR0_3.out t267 p268 q268
                 have hw268_7 := hx268_7
                 have hw268_6 := hx268_6
                 have hw268_5 := hx268_5
                 have hw268_4 := hx268_4
                 have hw268_3 := hx268_3
                 have hw268_2 := hx268_2
                 have hw268_1 := hx268_1
                 have hw268_0 := hx268_0
                 obtain rfl : ad264 = ad268 := (by injection e268)
                 replace hx268_0 := cb_ HB hx268_0
                 replace hx268_1 := cb_ HB hx268_1
                 replace hx268_2 := cb_ HB hx268_2
                 replace hx268_3 := cb_ HB hx268_3
                 replace hx268_4 := cb_ HB hx268_4
                 replace hx268_5 := cb_ HB hx268_5
                 replace hx268_6 := cb_ HB hx268_6
                 replace hx268_7 := cb_ HB hx268_7
                 replace p268 := eq_true p268
                 replace q268 := eq_true q268
                 refine start_ (n := 24) (S := fun w' => w'.cell? ⟨gb257, 0, none⟩ = some (.slice A0_0 l0_0.length c0_0) ∧ w'.cell? ⟨gb257, 1, none⟩ = some (.slice A0_1 l0_1.length c0_1) ∧ w'.cell? ⟨gb257, 2, none⟩ = some (.slice A0_2 l0_2.length c0_2) ∧ w'.cell? ⟨gb257, 3, none⟩ = some (.slice (some ad264) l0_3.length c0_3) ∧ w'.cell? ⟨gb265, 0, none⟩ = some (.string ((rd_T73 l0_3 x4_3).f0)) ∧ w'.cell? ⟨gb265, 1, none⟩ = some (.int .i64 ((rd_T73 l0_3 x4_3).f1.f0)) ∧ w'.cell? ⟨gb265, 2, none⟩ = some (.int .i64 ((rd_T73 l0_3 x4_3).f1.f1)) ∧ w'.cell? ⟨gb265, 3, none⟩ = some (.int .i64 ((rd_T73 l0_3 x4_3).f2)) ∧ w'.cell? ⟨gb265, 4, none⟩ = some (.int .i64 ((rd_T73 l0_3 x4_3).f3.f0)) ∧ w'.cell? ⟨gb265, 5, none⟩ = some (.int .i64 ((rd_T73 l0_3 x4_3).f3.f1)) ∧ w'.cell? ⟨gb265, 6, none⟩ = some (.int .i64 ((rd_T73 l0_3 x4_3).f4)) ∧ w'.cell? ⟨gb265, 7, none⟩ = some (.bool ((rd_T73 l0_3 x4_3).f5)) ∧ w'.cell? (ad264.add ((t267).toNat * 8)) = some (.string ((rd_T73 l0_3 t267).f0)) ∧ w'.cell? ⟨(ad264.add ((t267).toNat * 8)).block, (ad264.add ((t267).toNat * 8)).off + 1, none⟩ = some (.int .i64 ((rd_T73 l0_3 t267).f1.f0)) ∧ w'.cell? ⟨(ad264.add ((t267).toNat * 8)).block, (ad264.add ((t267).toNat * 8)).off + 2, none⟩ = some (.int .i64 ((rd_T73 l0_3 t267).f1.f1)) ∧ w'.cell? ⟨(ad264.add ((t267).toNat * 8)).block, (ad264.add ((t267).toNat * 8)).off + 3, none⟩ = some (.int .i64 ((rd_T73 l0_3 t267).f2)) ∧ w'.cell? ⟨(ad264.add ((t267).toNat * 8)).block, (ad264.add ((t267).toNat * 8)).off + 4, none⟩ = some (.int .i64 ((rd_T73 l0_3 t267).f3.f0)) ∧ w'.cell? ⟨(ad264.add ((t267).toNat * 8)).block, (ad264.add ((t267).toNat * 8)).off + 5, none⟩ = some (.int .i64 ((rd_T73 l0_3 t267).f3.f1)) ∧ w'.cell? ⟨(ad264.add ((t267).toNat * 8)).block, (ad264.add ((t267).toNat * 8)).off + 6, none⟩ = some (.int .i64 ((rd_T73 l0_3 t267).f4)) ∧ w'.cell? ⟨(ad264.add ((t267).toNat * 8)).block, (ad264.add ((t267).toNat * 8)).off + 7, none⟩ = some (.bool ((rd_T73 l0_3 t267).f5))) (ds := []) mk11_11 z11_8 rfl rfl ⟨bc_ BK257 0, bc_ BK257 1, bc_ BK257 2, bc_ BK257 3, bc_ BK265 0, bc_ BK265 1, bc_ BK265 2, bc_ BK265 3, bc_ BK265 4, bc_ BK265 5, bc_ BK265 6, bc_ BK265 7, (cb_ HB hw268_0), (cb_ HB hw268_1), (cb_ HB hw268_2), (cb_ HB hw268_3), (cb_ HB hw268_4), (cb_ HB hw268_5), (cb_ HB hw268_6), (cb_ HB hw268_7)⟩ (fun hHeld => ?_); refine with_tabW spec_StateOk.tab16 spec_StateOk.bits16 (fun HT_ HW_ => ?_)
                 generalize w92.drew = w93 at BK257 BK265 HB hx268_0 hx268_1 hx268_2 hx268_3 hx268_4 hx268_5 hx268_6 hx268_7 hHeld ⊢
                 refine p_ (i := 0) (N := some 72) mk11_12 ?_ (hv := z11_6) (ha := z11_1)
                 refine p_ (i := 1) (N := some 73) mk11_13 ?_ (hv := z11_6) (ha := z11_1)
                 refine p_ (i := 2) (N := some 74) mk11_14 ?_ (hv := z11_6) (ha := z11_1)
                 refine p_ (i := 3) (N := some 75) mk11_15 ?_ (hv := z11_6) (ha := z11_1)
                 refine p_ (i := 5) (N := some 77) mk11_36 ?_ (hv := z11_6) (ha := z11_1)
                 refine p_ (i := 9) (N := some 81) mk11_37 ?_ (hv := z11_6) (ha := z11_1)
                 refine t_ (i := 4) (N := some 76) mk11_38 hHeld ?_ (hv := by rintro w' ⟨s0, s1, s2, s3, s4, s5, s6, s7, s8, s9, s10, s11, s12, s13, s14, s15, s16, s17, s18, s19⟩; go_simp; with_reducible rfl) (ha := z11_1)
                 refine p_ (i := 6) (N := some 78) mk11_39 ?_ (hv := z11_6) (ha := z11_1)
                 refine p_ (i := 7) (N := some 79) mk11_40 ?_ (hv := z11_6) (ha := z11_1)
                 refine t_ (i := 8) (N := some 80) mk11_21 hHeld ?_ (hv := by rintro w' ⟨s0, s1, s2, s3, s4, s5, s6, s7, s8, s9, s10, s11, s12, s13, s14, s15, s16, s17, s18, s19⟩; go_simp; with_reducible rfl) (ha := z11_1)
                 refine t_ (i := 10) (N := some 82) mk11_22 hHeld ?_ (hv := by rintro w' ⟨s0, s1, s2, s3, s4, s5, s6, s7, s8, s9, s10, s11, s12, s13, s14, s15, s16, s17, s18, s19⟩; go_simp; with_reducible rfl) (ha := z11_1)
                 refine p_ (i := 11) (N := some 83) mk11_23 ?_ (hv := z11_6) (ha := z11_1)
                 refine p_ (i := 12) (N := some 84) mk11_24 ?_ (hv := z11_6) (ha := z11_1)
                 refine p_ (i := 13) (N := some 85) mk11_25 ?_ (hv := z11_6) (ha := z11_1)
                 refine u_ (i := 14) (N := some 86) mk11_26 ?_ (ha := z11_1)
                 refine u_ (i := 15) (N := some 87) mk11_27 ?_ (ha := z11_1)
                 refine u_ (i := 16) (N := some 88) mk11_28 ?_ (ha := z11_1)
                 refine u_ (i := 17) (N := some 89) mk11_29 ?_ (ha := z11_1)
                 refine u_ (i := 18) (N := some 90) mk11_30 ?_ (ha := z11_1)
                 refine u_ (i := 19) (N := some 91) mk11_31 ?_ (ha := z11_1)
                 refine u_ (i := 20) (N := some 92) mk11_32 ?_ (ha := z11_1)
                 refine u_ (i := 21) (N := some 93) mk11_33 ?_ (ha := z11_1)
                 refine u_ (i := 22) (N := some 94) mk11_34 ?_ (ha := z11_1)
                 refine p_ (i := 23) (N := some 95) mk11_35 ?_ (hv := z11_6) (ha := z11_1)
                 refine done_ (done_of HT_.out z11_8) ?_
                 try go_wp2
                 go_ret
                 exact ⟨z11_10, z11_5⟩
               ·
                rw [if_neg c61] at H
                exact absurd H (by simp)
              ·
               rw [if_neg c60] at H
               exact absurd H (by simp)
           ·
            replace c39 := Bool.eq_false_iff.mpr c39
            subst c39
            rw [if_neg (show ¬ (false = true) by decide)] at H
            obtain rfl := Option.some.inj H
            obtain ⟨hcz94_0, hcz94_1, hcz94_2, hcz94_3, hfz94_0, hfz94_1, hfz94_2, hfz94_3⟩ := bc4 BK257.out
            have p264 : 0 ≤ (x4_3 : Int) := of_decide_eq_true z11_9
            have q264 : x4_3 < (l0_3.length : Int) := of_decide_eq_true z11_9
            obtain ⟨ad264, e264, hx264_0, hx264_1, hx264_2, hx264_3, hx264_4, hx264_5, hx264_6, hx264_7⟩ := at_T73 HR0_3.out x4_3 p264 q264
            cases e264
            replace hx264_0 := cb_ HB hx264_0
            replace hx264_1 := cb_ HB hx264_1
            replace hx264_2 := cb_ HB hx264_2
            replace hx264_3 := cb_ HB hx264_3
            replace hx264_4 := cb_ HB hx264_4
            replace hx264_5 := cb_ HB hx264_5
            replace hx264_6 := cb_ HB hx264_6
            replace hx264_7 := cb_ HB hx264_7
            replace p264 := eq_true p264
            replace q264 := eq_true q264
            go_wp2_with (first | ((with_reducible refine gate_dst (N := 5) rfl ?_); refine box_event ?hg (N := 5) ?hd (cs := #[.string (⟨#[]⟩ : ByteArray), .int .i64 0, .int .i64 0, .int .i64 0, .int .i64 0, .int .i64 0, .int .i64 0, .bool false]) (t := 73) ?hr ?_; (case hd => rfl); (case hg => rfl); (case hr => first | (go_simp; done) | (go_simp; rfl)); intro gb265 hg w95 hbox hb; have BK265 := Aside0.mk (hbox); have GW265 := gw_ w z11_2 hg; have GE265 := gw_ w z11_2 hg; replace HB := Aside0.mk (below_step z11_2 hb); have NB257_265 := Aside0.mk ((by rw [hg]; exact Nat.ne_of_lt (blk_lt (g := gb257) (o := .cells #[.slice A0_0 l0_0.length c0_0, .slice A0_1 l0_1.length c0_1, .slice A0_2 l0_2.length c0_2, .slice (some ad264) l0_3.length c0_3] 36 (0, 0)) z11_4) : gb257 ≠ gb265)); have NB265_257 := Aside0.mk ((by rw [hg]; exact Nat.ne_of_gt (blk_lt (g := gb257) (o := .cells #[.slice A0_0 l0_0.length c0_0, .slice A0_1 l0_1.length c0_1, .slice A0_2 l0_2.length c0_2, .slice (some ad264) l0_3.length c0_3] 36 (0, 0)) z11_4) : gb265 ≠ gb257)); replace BK257 := Aside0.mk (blk_below (g := gb257) (o := .cells #[.slice A0_0 l0_0.length c0_0, .slice A0_1 l0_1.length c0_1, .slice A0_2 l0_2.length c0_2, .slice (some ad264) l0_3.length c0_3] 36 (0, 0)) z11_4 hb); clear hb hbox hg; have hnb96 := NB265_257.out; have hnc96 := NB257_265.out; obtain ⟨hcz97_0, hcz97_1, hcz97_2, hcz97_3, hcz97_4, hcz97_5, hcz97_6, hcz97_7, hfz97_0, hfz97_1, hfz97_2, hfz97_3, hfz97_4, hfz97_5, hfz97_6, hfz97_7⟩ := bc8 BK265.out; obtain ⟨hcz98_0, hcz98_1, hcz98_2, hcz98_3, hfz98_0, hfz98_1, hfz98_2, hfz98_3⟩ := bc4 BK257.out) | ((with_reducible refine gate_callee (f := 60) rfl ?_); refine goesL_ (some 62) rfl rfl Try.func60 z11_8 rfl #[.slice A0_0 l0_0.length c0_0, .agg #[.int .i64 ((rd_T73 l0_3 x4_3).f1.f0), .int .i64 ((rd_T73 l0_3 x4_3).f1.f1)]] rfl z11_7 ?_; (with_reducible refine (spec_Knows.calls k3 _ _ l0_0 ((rd_T73 l0_3 x4_3).f1.f0) ((rd_T73 l0_3 x4_3).f1.f1) false _ ?side1 ?side2 A38.out).mono ?_); (case side1 => exact Kd.C_below HR0_0.out z11_5); (case side2 => exact HC0_0.out); rintro e w99 ⟨rfl, hb⟩; refine ⟨_, rfl, ?_⟩; replace BK257 := Aside0.mk (blk_below (g := gb257) (o := .cells #[.slice A0_0 l0_0.length c0_0, .slice A0_1 l0_1.length c0_1, .slice A0_2 l0_2.length c0_2, .slice (some ad264) l0_3.length c0_3] 36 (0, 0)) z11_3 hb); replace BK265 := Aside0.mk (blk_below (g := gb265) (o := .cells #[.string ((rd_T73 l0_3 x4_3).f0), .int .i64 ((rd_T73 l0_3 x4_3).f1.f0), .int .i64 ((rd_T73 l0_3 x4_3).f1.f1), .int .i64 ((rd_T73 l0_3 x4_3).f2), .int .i64 ((rd_T73 l0_3 x4_3).f3.f0), .int .i64 ((rd_T73 l0_3 x4_3).f3.f1), .int .i64 ((rd_T73 l0_3 x4_3).f4), .bool ((rd_T73 l0_3 x4_3).f5)] 73 (0, 0)) z11_0 hb); replace HB := Aside0.mk (below_step z11_5 hb)))
            go_ret
            exact ⟨z11_10, z11_5⟩
          ·
           rw [if_neg c37] at H
           exact absurd H (by simp)
         ·
          rw [if_neg c36] at H
          have c36b0 : decide (x4_3 < (l0_3.length : Int)) = false := decide_eq_false c36
          clear c36
          obtain rfl := Option.some.inj H
          obtain ⟨hcz100_0, hcz100_1, hcz100_2, hcz100_3, hfz100_0, hfz100_1, hfz100_2, hfz100_3⟩ := bc4 BK257.out
          go_wp2
          go_ret
          exact ⟨z11_10, z11_2⟩
end Go.Proofs.Ytbanogkoaplcdaa.QSOk
