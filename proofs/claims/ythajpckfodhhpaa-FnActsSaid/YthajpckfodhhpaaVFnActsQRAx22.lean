/- What the functions behind RA compute, and that the program's calls come to just that. Written by a program of this session on the base of the kit's print. No condition. -/
import Derived.Test.YthajpckfodhhpaaVFnActsShort
import Derived.Test.YthajpckfodhhpaaVFnActsQRAx0
import Derived.Test.YthajpckfodhhpaaVFnActsQRAx2
import Derived.Test.YthajpckfodhhpaaVFnActsQRAx5
import Derived.Test.YthajpckfodhhpaaVFnActsQRAx6
import Derived.Test.YthajpckfodhhpaaVFnActsQRAx8
import Derived.Test.YthajpckfodhhpaaVFnActsQRAx10
import Derived.Test.YthajpckfodhhpaaVFnActsQRAx12
import Derived.Test.YthajpckfodhhpaaVFnActsQRAx13
import Derived.Test.YthajpckfodhhpaaVFnActsQRAx16
import Derived.Test.YthajpckfodhhpaaVFnActsQRAx19
import Derived.Test.YthajpckfodhhpaaVFnActsQRAx20
import Derived.Test.YthajpckfodhhpaaVFnActsQRAx21
namespace Go.Proofs.Ythajpckfodhhpaa.QRA
open Go.RowKit Go.Proofs.Ythajpckfodhhpaa.Short Go.Proofs.YthajpckfodhhpaaW.PrintWords Go.Proofs.YthajpckfodhhpaaW.PrintLast Go.Proofs.YthajpckfodhhpaaW.PrintMore
attribute [local go_sem] max2_int min2_int max_two min_two max_three min_three max_four min_four   -- for this text's walks alone
set_option linter.unusedVariables false
set_option linter.unusedSimpArgs false
theorem z22_99 {P : Prop} (h : P := by first | rfl | (simp [errW_none, errW_some] <;> rfl) | (simp [*, errW_none, errW_some] <;> rfl)) : P := h
theorem z22_98 {P : Prop} (h : P := by (with_reducible repeat (first | apply Kd.R_alloc | apply Kd.R_drewN | apply Kd.R_drew)); exact (Kd.R_mono (Kd.R_far (p := ⟨gb732, 9, none⟩) (Kd.R_far (p := ⟨gb732, 8, none⟩) (Kd.R_far (p := ⟨gb732, 7, none⟩) (Kd.R_far (p := ⟨gb732, 6, none⟩) (Kd.R_far (p := ⟨gb732, 5, none⟩) (Kd.R_far (p := ⟨gb732, 4, none⟩) (Kd.R_far (p := ⟨gb732, 3, none⟩) (Kd.R_far (p := ⟨gb732, 2, none⟩) (Kd.R_far (p := ⟨gb732, 1, none⟩) (Kd.R_far (p := ⟨gb732, 0, none⟩) (Kd.R_types HO725.out BK732.out (by decide)) (fun _ hk => by first | exact hk.2 | trivial) (.int .i64 t720)) (fun _ hk => by first | exact hk.2 | trivial) (.int .i64 t721)) (fun _ hk => by first | exact hk.2 | trivial) (.int .i64 t722)) (fun _ hk => by first | exact hk.2 | trivial) (.slice Ao43 t723.length co43)) (fun _ hk => by first | exact hk.2 | trivial) (.int .i64 t726)) (fun _ hk => by first | exact hk.2 | trivial) (.string t727)) (fun _ hk => by first | exact hk.2 | trivial) (.string t728)) (fun _ hk => by first | exact hk.2 | trivial) (.int .i64 t729)) (fun _ hk => by first | exact hk.2 | trivial) (.int .i64 t730)) (fun _ hk => by first | exact hk.2 | trivial) (.int .i64 t731)) (fun _ h_ => h_.1))) : P := h
theorem z22_97 {P : Prop} (h : P := by (with_reducible repeat (first | apply Kd.R_alloc | apply Kd.R_drewN | apply Kd.R_drew)); exact (Kd.R_mono (Kd.R_far (p := ⟨gb766, 9, none⟩) (Kd.R_far (p := ⟨gb766, 8, none⟩) (Kd.R_far (p := ⟨gb766, 7, none⟩) (Kd.R_far (p := ⟨gb766, 6, none⟩) (Kd.R_far (p := ⟨gb766, 5, none⟩) (Kd.R_far (p := ⟨gb766, 4, none⟩) (Kd.R_far (p := ⟨gb766, 3, none⟩) (Kd.R_far (p := ⟨gb766, 2, none⟩) (Kd.R_far (p := ⟨gb766, 1, none⟩) (Kd.R_far (p := ⟨gb766, 0, none⟩) (Kd.R_types HO725.out BK766.out (by decide)) (fun _ hk => by first | exact hk.2 | trivial) (.int .i64 t752)) (fun _ hk => by first | exact hk.2 | trivial) (.int .i64 t753)) (fun _ hk => by first | exact hk.2 | trivial) (.int .i64 t754)) (fun _ hk => by first | exact hk.2 | trivial) (.slice Ao56 t755.length co56)) (fun _ hk => by first | exact hk.2 | trivial) (.int .i64 t758)) (fun _ hk => by first | exact hk.2 | trivial) (.string t759)) (fun _ hk => by first | exact hk.2 | trivial) (.string t760)) (fun _ hk => by first | exact hk.2 | trivial) (.int .i64 t761)) (fun _ hk => by first | exact hk.2 | trivial) (.int .i64 t762)) (fun _ hk => by first | exact hk.2 | trivial) (.int .i64 t763)) (fun _ h_ => h_.1))) : P := h
theorem z22_96 {P : Prop} (h : P := by (with_reducible repeat (first | apply Kd.R_alloc | apply Kd.R_drewN | apply Kd.R_drew)); exact (Kd.R_mono (Kd.R_far (p := ⟨gb766, 9, none⟩) (Kd.R_far (p := ⟨gb766, 8, none⟩) (Kd.R_far (p := ⟨gb766, 7, none⟩) (Kd.R_far (p := ⟨gb766, 6, none⟩) (Kd.R_far (p := ⟨gb766, 5, none⟩) (Kd.R_far (p := ⟨gb766, 4, none⟩) (Kd.R_far (p := ⟨gb766, 3, none⟩) (Kd.R_far (p := ⟨gb766, 2, none⟩) (Kd.R_far (p := ⟨gb766, 1, none⟩) (Kd.R_far (p := ⟨gb766, 0, none⟩) (Kd.R_types HO740.out BK766.out (by decide)) (fun _ hk => by first | exact hk.2 | trivial) (.int .i64 t752)) (fun _ hk => by first | exact hk.2 | trivial) (.int .i64 t753)) (fun _ hk => by first | exact hk.2 | trivial) (.int .i64 t754)) (fun _ hk => by first | exact hk.2 | trivial) (.slice Ao56 t755.length co56)) (fun _ hk => by first | exact hk.2 | trivial) (.int .i64 t758)) (fun _ hk => by first | exact hk.2 | trivial) (.string t759)) (fun _ hk => by first | exact hk.2 | trivial) (.string t760)) (fun _ hk => by first | exact hk.2 | trivial) (.int .i64 t761)) (fun _ hk => by first | exact hk.2 | trivial) (.int .i64 t762)) (fun _ hk => by first | exact hk.2 | trivial) (.int .i64 t763)) (fun _ h_ => h_.1))) : P := h
theorem z22_95 {P : Prop} (h : P := by (with_reducible repeat (first | apply Kd.R_alloc | apply Kd.R_drewN | apply Kd.R_drew)); exact (Kd.R_mono (Kd.R_far (p := ⟨gb766, 9, none⟩) (Kd.R_far (p := ⟨gb766, 8, none⟩) (Kd.R_far (p := ⟨gb766, 7, none⟩) (Kd.R_far (p := ⟨gb766, 6, none⟩) (Kd.R_far (p := ⟨gb766, 5, none⟩) (Kd.R_far (p := ⟨gb766, 4, none⟩) (Kd.R_far (p := ⟨gb766, 3, none⟩) (Kd.R_far (p := ⟨gb766, 2, none⟩) (Kd.R_far (p := ⟨gb766, 1, none⟩) (Kd.R_far (p := ⟨gb766, 0, none⟩) (Kd.R_types HO757.out BK766.out (by decide)) (fun _ hk => by first | exact hk.2 | trivial) (.int .i64 t752)) (fun _ hk => by first | exact hk.2 | trivial) (.int .i64 t753)) (fun _ hk => by first | exact hk.2 | trivial) (.int .i64 t754)) (fun _ hk => by first | exact hk.2 | trivial) (.slice Ao56 t755.length co56)) (fun _ hk => by first | exact hk.2 | trivial) (.int .i64 t758)) (fun _ hk => by first | exact hk.2 | trivial) (.string t759)) (fun _ hk => by first | exact hk.2 | trivial) (.string t760)) (fun _ hk => by first | exact hk.2 | trivial) (.int .i64 t761)) (fun _ hk => by first | exact hk.2 | trivial) (.int .i64 t762)) (fun _ hk => by first | exact hk.2 | trivial) (.int .i64 t763)) (fun _ h_ => h_.1))) : P := h
theorem z22_82 {P : Prop} (h : P := by (with_reducible repeat (first | apply Kd.R_alloc | apply Kd.R_drewN | apply Kd.R_drew)); exact (Kd.R_mono (Kd.R_far (p := ⟨gb781, 9, none⟩) (Kd.R_far (p := ⟨gb781, 8, none⟩) (Kd.R_far (p := ⟨gb781, 7, none⟩) (Kd.R_far (p := ⟨gb781, 6, none⟩) (Kd.R_far (p := ⟨gb781, 5, none⟩) (Kd.R_far (p := ⟨gb781, 4, none⟩) (Kd.R_far (p := ⟨gb781, 3, none⟩) (Kd.R_far (p := ⟨gb781, 2, none⟩) (Kd.R_far (p := ⟨gb781, 1, none⟩) (Kd.R_far (p := ⟨gb781, 0, none⟩) (Kd.R_types HO725.out BK781.out (by decide)) (fun _ hk => by first | exact hk.2 | trivial) (.int .i64 t767)) (fun _ hk => by first | exact hk.2 | trivial) (.int .i64 t768)) (fun _ hk => by first | exact hk.2 | trivial) (.int .i64 t769)) (fun _ hk => by first | exact hk.2 | trivial) (.slice Ao63 t770.length co63)) (fun _ hk => by first | exact hk.2 | trivial) (.int .i64 t773)) (fun _ hk => by first | exact hk.2 | trivial) (.string t774)) (fun _ hk => by first | exact hk.2 | trivial) (.string t775)) (fun _ hk => by first | exact hk.2 | trivial) (.int .i64 t776)) (fun _ hk => by first | exact hk.2 | trivial) (.int .i64 t777)) (fun _ hk => by first | exact hk.2 | trivial) (.int .i64 t778)) (fun _ h_ => h_.1))) : P := h
theorem z22_81 {P : Prop} (h : P := by (with_reducible repeat (first | apply Kd.R_alloc | apply Kd.R_drewN | apply Kd.R_drew)); exact (Kd.R_mono (Kd.R_far (p := ⟨gb781, 9, none⟩) (Kd.R_far (p := ⟨gb781, 8, none⟩) (Kd.R_far (p := ⟨gb781, 7, none⟩) (Kd.R_far (p := ⟨gb781, 6, none⟩) (Kd.R_far (p := ⟨gb781, 5, none⟩) (Kd.R_far (p := ⟨gb781, 4, none⟩) (Kd.R_far (p := ⟨gb781, 3, none⟩) (Kd.R_far (p := ⟨gb781, 2, none⟩) (Kd.R_far (p := ⟨gb781, 1, none⟩) (Kd.R_far (p := ⟨gb781, 0, none⟩) (Kd.R_types HO740.out BK781.out (by decide)) (fun _ hk => by first | exact hk.2 | trivial) (.int .i64 t767)) (fun _ hk => by first | exact hk.2 | trivial) (.int .i64 t768)) (fun _ hk => by first | exact hk.2 | trivial) (.int .i64 t769)) (fun _ hk => by first | exact hk.2 | trivial) (.slice Ao63 t770.length co63)) (fun _ hk => by first | exact hk.2 | trivial) (.int .i64 t773)) (fun _ hk => by first | exact hk.2 | trivial) (.string t774)) (fun _ hk => by first | exact hk.2 | trivial) (.string t775)) (fun _ hk => by first | exact hk.2 | trivial) (.int .i64 t776)) (fun _ hk => by first | exact hk.2 | trivial) (.int .i64 t777)) (fun _ hk => by first | exact hk.2 | trivial) (.int .i64 t778)) (fun _ h_ => h_.1))) : P := h
theorem z22_80 {P : Prop} (h : P := by (with_reducible repeat (first | apply Kd.R_alloc | apply Kd.R_drewN | apply Kd.R_drew)); exact (Kd.R_mono (Kd.R_far (p := ⟨gb781, 9, none⟩) (Kd.R_far (p := ⟨gb781, 8, none⟩) (Kd.R_far (p := ⟨gb781, 7, none⟩) (Kd.R_far (p := ⟨gb781, 6, none⟩) (Kd.R_far (p := ⟨gb781, 5, none⟩) (Kd.R_far (p := ⟨gb781, 4, none⟩) (Kd.R_far (p := ⟨gb781, 3, none⟩) (Kd.R_far (p := ⟨gb781, 2, none⟩) (Kd.R_far (p := ⟨gb781, 1, none⟩) (Kd.R_far (p := ⟨gb781, 0, none⟩) (Kd.R_types HO757.out BK781.out (by decide)) (fun _ hk => by first | exact hk.2 | trivial) (.int .i64 t767)) (fun _ hk => by first | exact hk.2 | trivial) (.int .i64 t768)) (fun _ hk => by first | exact hk.2 | trivial) (.int .i64 t769)) (fun _ hk => by first | exact hk.2 | trivial) (.slice Ao63 t770.length co63)) (fun _ hk => by first | exact hk.2 | trivial) (.int .i64 t773)) (fun _ hk => by first | exact hk.2 | trivial) (.string t774)) (fun _ hk => by first | exact hk.2 | trivial) (.string t775)) (fun _ hk => by first | exact hk.2 | trivial) (.int .i64 t776)) (fun _ hk => by first | exact hk.2 | trivial) (.int .i64 t777)) (fun _ hk => by first | exact hk.2 | trivial) (.int .i64 t778)) (fun _ h_ => h_.1))) : P := h
theorem z22_79 {P : Prop} (h : P := by (with_reducible repeat (first | apply Kd.R_alloc | apply Kd.R_drewN | apply Kd.R_drew)); exact (Kd.R_mono (Kd.R_far (p := ⟨gb781, 9, none⟩) (Kd.R_far (p := ⟨gb781, 8, none⟩) (Kd.R_far (p := ⟨gb781, 7, none⟩) (Kd.R_far (p := ⟨gb781, 6, none⟩) (Kd.R_far (p := ⟨gb781, 5, none⟩) (Kd.R_far (p := ⟨gb781, 4, none⟩) (Kd.R_far (p := ⟨gb781, 3, none⟩) (Kd.R_far (p := ⟨gb781, 2, none⟩) (Kd.R_far (p := ⟨gb781, 1, none⟩) (Kd.R_far (p := ⟨gb781, 0, none⟩) (Kd.R_types HO772.out BK781.out (by decide)) (fun _ hk => by first | exact hk.2 | trivial) (.int .i64 t767)) (fun _ hk => by first | exact hk.2 | trivial) (.int .i64 t768)) (fun _ hk => by first | exact hk.2 | trivial) (.int .i64 t769)) (fun _ hk => by first | exact hk.2 | trivial) (.slice Ao63 t770.length co63)) (fun _ hk => by first | exact hk.2 | trivial) (.int .i64 t773)) (fun _ hk => by first | exact hk.2 | trivial) (.string t774)) (fun _ hk => by first | exact hk.2 | trivial) (.string t775)) (fun _ hk => by first | exact hk.2 | trivial) (.int .i64 t776)) (fun _ hk => by first | exact hk.2 | trivial) (.int .i64 t777)) (fun _ hk => by first | exact hk.2 | trivial) (.int .i64 t778)) (fun _ h_ => h_.1))) : P := h
theorem z22_66 {P : Prop} (h : P := by repeat (first | (with_reducible first | exact HB.out | apply below_alloc | apply pw_below_drewN | apply below_drew1) | exact HB.out)) : P := h
theorem z22_65 {P : Prop} (h : P := by repeat (first | (with_reducible first | exact HB.out | apply below_alloc | apply pw_below_drewN | apply below_drew1 | refine below_set ?_ GE732.out | refine below_set ?_ GE749.out | refine below_set ?_ GE766.out | refine below_set ?_ GE781.out | refine below_set ?_ GE806.out) | exact HB.out)) : P := h
theorem z22_64 {P : Prop} (h : P := by kernel_rfl) : P := h
theorem z22_63 {P : Prop} (h : P := by repeat (first | (with_reducible first | exact HB.out | apply below_alloc | apply pw_below_drewN | apply below_drew1 | refine below_set ?_ GE732.out) | exact HB.out)) : P := h
theorem z22_62 {P : Prop} (h : P := by repeat (first | (with_reducible first | exact HB.out | apply below_alloc | apply pw_below_drewN | apply below_drew1 | refine below_set ?_ GE732.out | refine below_set ?_ GE749.out | refine below_set ?_ GE766.out | refine below_set ?_ GE781.out | refine below_set ?_ GE806.out | refine below_set ?_ GE807.out | refine below_set ?_ GE832.out) | exact HB.out)) : P := h
theorem z22_61 {P : Prop} (h : P := by (with_reducible repeat (first | refine blk_drewN ?_ _ | refine blk_drew ?_ | refine blk_alloc ?_ _)); exact BK833.out) : P := h
theorem z22_60 {P : Prop} (h : P := by (with_reducible repeat (first | apply Kd.R_alloc | apply Kd.R_drewN | apply Kd.R_drew)); exact (Kd.R_mono (Kd.R_mono (Kd.R_far (p := ⟨gb807, 9, none⟩) (Kd.R_far (p := ⟨gb807, 8, none⟩) (Kd.R_far (p := ⟨gb807, 7, none⟩) (Kd.R_far (p := ⟨gb807, 6, none⟩) (Kd.R_far (p := ⟨gb807, 5, none⟩) (Kd.R_far (p := ⟨gb807, 4, none⟩) (Kd.R_far (p := ⟨gb807, 3, none⟩) (Kd.R_far (p := ⟨gb807, 2, none⟩) (Kd.R_far (p := ⟨gb807, 1, none⟩) (Kd.R_far (p := ⟨gb807, 0, none⟩) (Kd.R_far (p := ⟨gb806, 9, none⟩) (Kd.R_far (p := ⟨gb806, 8, none⟩) (Kd.R_far (p := ⟨gb806, 7, none⟩) (Kd.R_far (p := ⟨gb806, 6, none⟩) (Kd.R_far (p := ⟨gb806, 5, none⟩) (Kd.R_far (p := ⟨gb806, 4, none⟩) (Kd.R_far (p := ⟨gb806, 3, none⟩) (Kd.R_far (p := ⟨gb806, 2, none⟩) (Kd.R_far (p := ⟨gb806, 1, none⟩) (Kd.R_far (p := ⟨gb806, 0, none⟩) (Kd.R_types (Kd.R_types HO725.out BK806.out (by decide)) BK807.out (by decide)) (fun _ hk => hk.1.2) (.int .i64 t782)) (fun _ hk => hk.1.2) (.int .i64 t783)) (fun _ hk => hk.1.2) (.int .i64 t784)) (fun _ hk => hk.1.2) (.slice Ao73 t785.length co73)) (fun _ hk => hk.1.2) (.int .i64 t788)) (fun _ hk => hk.1.2) (.string t789)) (fun _ hk => hk.1.2) (.string t790)) (fun _ hk => hk.1.2) (.int .i64 t791)) (fun _ hk => hk.1.2) (.int .i64 t792)) (fun _ hk => hk.1.2) (.int .i64 t793)) (fun _ hk => by first | exact hk.2 | trivial) (.int .i64 t794)) (fun _ hk => by first | exact hk.2 | trivial) (.int .i64 t795)) (fun _ hk => by first | exact hk.2 | trivial) (.int .i64 t796)) (fun _ hk => by first | exact hk.2 | trivial) (.slice Ao79 t797.length co79)) (fun _ hk => by first | exact hk.2 | trivial) (.int .i64 t800)) (fun _ hk => by first | exact hk.2 | trivial) (.string t801)) (fun _ hk => by first | exact hk.2 | trivial) (.string t802)) (fun _ hk => by first | exact hk.2 | trivial) (.int .i64 t803)) (fun _ hk => by first | exact hk.2 | trivial) (.int .i64 t804)) (fun _ hk => by first | exact hk.2 | trivial) (.int .i64 t805)) (fun _ h_ => h_.1)) (fun _ h_ => h_.1))) : P := h
theorem z22_59 {P : Prop} (h : P := by (with_reducible repeat (first | apply Kd.R_alloc | apply Kd.R_drewN | apply Kd.R_drew)); exact (Kd.R_mono (Kd.R_mono (Kd.R_far (p := ⟨gb807, 9, none⟩) (Kd.R_far (p := ⟨gb807, 8, none⟩) (Kd.R_far (p := ⟨gb807, 7, none⟩) (Kd.R_far (p := ⟨gb807, 6, none⟩) (Kd.R_far (p := ⟨gb807, 5, none⟩) (Kd.R_far (p := ⟨gb807, 4, none⟩) (Kd.R_far (p := ⟨gb807, 3, none⟩) (Kd.R_far (p := ⟨gb807, 2, none⟩) (Kd.R_far (p := ⟨gb807, 1, none⟩) (Kd.R_far (p := ⟨gb807, 0, none⟩) (Kd.R_far (p := ⟨gb806, 9, none⟩) (Kd.R_far (p := ⟨gb806, 8, none⟩) (Kd.R_far (p := ⟨gb806, 7, none⟩) (Kd.R_far (p := ⟨gb806, 6, none⟩) (Kd.R_far (p := ⟨gb806, 5, none⟩) (Kd.R_far (p := ⟨gb806, 4, none⟩) (Kd.R_far (p := ⟨gb806, 3, none⟩) (Kd.R_far (p := ⟨gb806, 2, none⟩) (Kd.R_far (p := ⟨gb806, 1, none⟩) (Kd.R_far (p := ⟨gb806, 0, none⟩) (Kd.R_types (Kd.R_types HO740.out BK806.out (by decide)) BK807.out (by decide)) (fun _ hk => hk.1.2) (.int .i64 t782)) (fun _ hk => hk.1.2) (.int .i64 t783)) (fun _ hk => hk.1.2) (.int .i64 t784)) (fun _ hk => hk.1.2) (.slice Ao73 t785.length co73)) (fun _ hk => hk.1.2) (.int .i64 t788)) (fun _ hk => hk.1.2) (.string t789)) (fun _ hk => hk.1.2) (.string t790)) (fun _ hk => hk.1.2) (.int .i64 t791)) (fun _ hk => hk.1.2) (.int .i64 t792)) (fun _ hk => hk.1.2) (.int .i64 t793)) (fun _ hk => by first | exact hk.2 | trivial) (.int .i64 t794)) (fun _ hk => by first | exact hk.2 | trivial) (.int .i64 t795)) (fun _ hk => by first | exact hk.2 | trivial) (.int .i64 t796)) (fun _ hk => by first | exact hk.2 | trivial) (.slice Ao79 t797.length co79)) (fun _ hk => by first | exact hk.2 | trivial) (.int .i64 t800)) (fun _ hk => by first | exact hk.2 | trivial) (.string t801)) (fun _ hk => by first | exact hk.2 | trivial) (.string t802)) (fun _ hk => by first | exact hk.2 | trivial) (.int .i64 t803)) (fun _ hk => by first | exact hk.2 | trivial) (.int .i64 t804)) (fun _ hk => by first | exact hk.2 | trivial) (.int .i64 t805)) (fun _ h_ => h_.1)) (fun _ h_ => h_.1))) : P := h
theorem z22_58 {P : Prop} (h : P := by (with_reducible repeat (first | apply Kd.R_alloc | apply Kd.R_drewN | apply Kd.R_drew)); exact (Kd.R_mono (Kd.R_mono (Kd.R_far (p := ⟨gb807, 9, none⟩) (Kd.R_far (p := ⟨gb807, 8, none⟩) (Kd.R_far (p := ⟨gb807, 7, none⟩) (Kd.R_far (p := ⟨gb807, 6, none⟩) (Kd.R_far (p := ⟨gb807, 5, none⟩) (Kd.R_far (p := ⟨gb807, 4, none⟩) (Kd.R_far (p := ⟨gb807, 3, none⟩) (Kd.R_far (p := ⟨gb807, 2, none⟩) (Kd.R_far (p := ⟨gb807, 1, none⟩) (Kd.R_far (p := ⟨gb807, 0, none⟩) (Kd.R_far (p := ⟨gb806, 9, none⟩) (Kd.R_far (p := ⟨gb806, 8, none⟩) (Kd.R_far (p := ⟨gb806, 7, none⟩) (Kd.R_far (p := ⟨gb806, 6, none⟩) (Kd.R_far (p := ⟨gb806, 5, none⟩) (Kd.R_far (p := ⟨gb806, 4, none⟩) (Kd.R_far (p := ⟨gb806, 3, none⟩) (Kd.R_far (p := ⟨gb806, 2, none⟩) (Kd.R_far (p := ⟨gb806, 1, none⟩) (Kd.R_far (p := ⟨gb806, 0, none⟩) (Kd.R_types (Kd.R_types HO757.out BK806.out (by decide)) BK807.out (by decide)) (fun _ hk => hk.1.2) (.int .i64 t782)) (fun _ hk => hk.1.2) (.int .i64 t783)) (fun _ hk => hk.1.2) (.int .i64 t784)) (fun _ hk => hk.1.2) (.slice Ao73 t785.length co73)) (fun _ hk => hk.1.2) (.int .i64 t788)) (fun _ hk => hk.1.2) (.string t789)) (fun _ hk => hk.1.2) (.string t790)) (fun _ hk => hk.1.2) (.int .i64 t791)) (fun _ hk => hk.1.2) (.int .i64 t792)) (fun _ hk => hk.1.2) (.int .i64 t793)) (fun _ hk => by first | exact hk.2 | trivial) (.int .i64 t794)) (fun _ hk => by first | exact hk.2 | trivial) (.int .i64 t795)) (fun _ hk => by first | exact hk.2 | trivial) (.int .i64 t796)) (fun _ hk => by first | exact hk.2 | trivial) (.slice Ao79 t797.length co79)) (fun _ hk => by first | exact hk.2 | trivial) (.int .i64 t800)) (fun _ hk => by first | exact hk.2 | trivial) (.string t801)) (fun _ hk => by first | exact hk.2 | trivial) (.string t802)) (fun _ hk => by first | exact hk.2 | trivial) (.int .i64 t803)) (fun _ hk => by first | exact hk.2 | trivial) (.int .i64 t804)) (fun _ hk => by first | exact hk.2 | trivial) (.int .i64 t805)) (fun _ h_ => h_.1)) (fun _ h_ => h_.1))) : P := h
theorem z22_57 {P : Prop} (h : P := by (with_reducible repeat (first | apply Kd.R_alloc | apply Kd.R_drewN | apply Kd.R_drew)); exact (Kd.R_mono (Kd.R_mono (Kd.R_far (p := ⟨gb807, 9, none⟩) (Kd.R_far (p := ⟨gb807, 8, none⟩) (Kd.R_far (p := ⟨gb807, 7, none⟩) (Kd.R_far (p := ⟨gb807, 6, none⟩) (Kd.R_far (p := ⟨gb807, 5, none⟩) (Kd.R_far (p := ⟨gb807, 4, none⟩) (Kd.R_far (p := ⟨gb807, 3, none⟩) (Kd.R_far (p := ⟨gb807, 2, none⟩) (Kd.R_far (p := ⟨gb807, 1, none⟩) (Kd.R_far (p := ⟨gb807, 0, none⟩) (Kd.R_far (p := ⟨gb806, 9, none⟩) (Kd.R_far (p := ⟨gb806, 8, none⟩) (Kd.R_far (p := ⟨gb806, 7, none⟩) (Kd.R_far (p := ⟨gb806, 6, none⟩) (Kd.R_far (p := ⟨gb806, 5, none⟩) (Kd.R_far (p := ⟨gb806, 4, none⟩) (Kd.R_far (p := ⟨gb806, 3, none⟩) (Kd.R_far (p := ⟨gb806, 2, none⟩) (Kd.R_far (p := ⟨gb806, 1, none⟩) (Kd.R_far (p := ⟨gb806, 0, none⟩) (Kd.R_types (Kd.R_types HO772.out BK806.out (by decide)) BK807.out (by decide)) (fun _ hk => hk.1.2) (.int .i64 t782)) (fun _ hk => hk.1.2) (.int .i64 t783)) (fun _ hk => hk.1.2) (.int .i64 t784)) (fun _ hk => hk.1.2) (.slice Ao73 t785.length co73)) (fun _ hk => hk.1.2) (.int .i64 t788)) (fun _ hk => hk.1.2) (.string t789)) (fun _ hk => hk.1.2) (.string t790)) (fun _ hk => hk.1.2) (.int .i64 t791)) (fun _ hk => hk.1.2) (.int .i64 t792)) (fun _ hk => hk.1.2) (.int .i64 t793)) (fun _ hk => by first | exact hk.2 | trivial) (.int .i64 t794)) (fun _ hk => by first | exact hk.2 | trivial) (.int .i64 t795)) (fun _ hk => by first | exact hk.2 | trivial) (.int .i64 t796)) (fun _ hk => by first | exact hk.2 | trivial) (.slice Ao79 t797.length co79)) (fun _ hk => by first | exact hk.2 | trivial) (.int .i64 t800)) (fun _ hk => by first | exact hk.2 | trivial) (.string t801)) (fun _ hk => by first | exact hk.2 | trivial) (.string t802)) (fun _ hk => by first | exact hk.2 | trivial) (.int .i64 t803)) (fun _ hk => by first | exact hk.2 | trivial) (.int .i64 t804)) (fun _ hk => by first | exact hk.2 | trivial) (.int .i64 t805)) (fun _ h_ => h_.1)) (fun _ h_ => h_.1))) : P := h
theorem z22_56 {P : Prop} (h : P := by (with_reducible repeat (first | apply Kd.R_alloc | apply Kd.R_drewN | apply Kd.R_drew)); exact (Kd.R_mono (Kd.R_mono (Kd.R_far (p := ⟨gb807, 9, none⟩) (Kd.R_far (p := ⟨gb807, 8, none⟩) (Kd.R_far (p := ⟨gb807, 7, none⟩) (Kd.R_far (p := ⟨gb807, 6, none⟩) (Kd.R_far (p := ⟨gb807, 5, none⟩) (Kd.R_far (p := ⟨gb807, 4, none⟩) (Kd.R_far (p := ⟨gb807, 3, none⟩) (Kd.R_far (p := ⟨gb807, 2, none⟩) (Kd.R_far (p := ⟨gb807, 1, none⟩) (Kd.R_far (p := ⟨gb807, 0, none⟩) (Kd.R_far (p := ⟨gb806, 9, none⟩) (Kd.R_far (p := ⟨gb806, 8, none⟩) (Kd.R_far (p := ⟨gb806, 7, none⟩) (Kd.R_far (p := ⟨gb806, 6, none⟩) (Kd.R_far (p := ⟨gb806, 5, none⟩) (Kd.R_far (p := ⟨gb806, 4, none⟩) (Kd.R_far (p := ⟨gb806, 3, none⟩) (Kd.R_far (p := ⟨gb806, 2, none⟩) (Kd.R_far (p := ⟨gb806, 1, none⟩) (Kd.R_far (p := ⟨gb806, 0, none⟩) (Kd.R_types (Kd.R_types HO787.out BK806.out (by decide)) BK807.out (by decide)) (fun _ hk => hk.1.2) (.int .i64 t782)) (fun _ hk => hk.1.2) (.int .i64 t783)) (fun _ hk => hk.1.2) (.int .i64 t784)) (fun _ hk => hk.1.2) (.slice Ao73 t785.length co73)) (fun _ hk => hk.1.2) (.int .i64 t788)) (fun _ hk => hk.1.2) (.string t789)) (fun _ hk => hk.1.2) (.string t790)) (fun _ hk => hk.1.2) (.int .i64 t791)) (fun _ hk => hk.1.2) (.int .i64 t792)) (fun _ hk => hk.1.2) (.int .i64 t793)) (fun _ hk => by first | exact hk.2 | trivial) (.int .i64 t794)) (fun _ hk => by first | exact hk.2 | trivial) (.int .i64 t795)) (fun _ hk => by first | exact hk.2 | trivial) (.int .i64 t796)) (fun _ hk => by first | exact hk.2 | trivial) (.slice Ao79 t797.length co79)) (fun _ hk => by first | exact hk.2 | trivial) (.int .i64 t800)) (fun _ hk => by first | exact hk.2 | trivial) (.string t801)) (fun _ hk => by first | exact hk.2 | trivial) (.string t802)) (fun _ hk => by first | exact hk.2 | trivial) (.int .i64 t803)) (fun _ hk => by first | exact hk.2 | trivial) (.int .i64 t804)) (fun _ hk => by first | exact hk.2 | trivial) (.int .i64 t805)) (fun _ h_ => h_.1)) (fun _ h_ => h_.1))) : P := h
theorem z22_55 {P : Prop} (h : P := by (with_reducible repeat (first | apply Kd.R_alloc | apply Kd.R_drewN | apply Kd.R_drew)); exact (Kd.R_mono (Kd.R_mono (Kd.R_far (p := ⟨gb807, 9, none⟩) (Kd.R_far (p := ⟨gb807, 8, none⟩) (Kd.R_far (p := ⟨gb807, 7, none⟩) (Kd.R_far (p := ⟨gb807, 6, none⟩) (Kd.R_far (p := ⟨gb807, 5, none⟩) (Kd.R_far (p := ⟨gb807, 4, none⟩) (Kd.R_far (p := ⟨gb807, 3, none⟩) (Kd.R_far (p := ⟨gb807, 2, none⟩) (Kd.R_far (p := ⟨gb807, 1, none⟩) (Kd.R_far (p := ⟨gb807, 0, none⟩) (Kd.R_far (p := ⟨gb806, 9, none⟩) (Kd.R_far (p := ⟨gb806, 8, none⟩) (Kd.R_far (p := ⟨gb806, 7, none⟩) (Kd.R_far (p := ⟨gb806, 6, none⟩) (Kd.R_far (p := ⟨gb806, 5, none⟩) (Kd.R_far (p := ⟨gb806, 4, none⟩) (Kd.R_far (p := ⟨gb806, 3, none⟩) (Kd.R_far (p := ⟨gb806, 2, none⟩) (Kd.R_far (p := ⟨gb806, 1, none⟩) (Kd.R_far (p := ⟨gb806, 0, none⟩) (Kd.R_types (Kd.R_types HO799.out BK806.out (by decide)) BK807.out (by decide)) (fun _ hk => hk.1.2) (.int .i64 t782)) (fun _ hk => hk.1.2) (.int .i64 t783)) (fun _ hk => hk.1.2) (.int .i64 t784)) (fun _ hk => hk.1.2) (.slice Ao73 t785.length co73)) (fun _ hk => hk.1.2) (.int .i64 t788)) (fun _ hk => hk.1.2) (.string t789)) (fun _ hk => hk.1.2) (.string t790)) (fun _ hk => hk.1.2) (.int .i64 t791)) (fun _ hk => hk.1.2) (.int .i64 t792)) (fun _ hk => hk.1.2) (.int .i64 t793)) (fun _ hk => by first | exact hk.2 | trivial) (.int .i64 t794)) (fun _ hk => by first | exact hk.2 | trivial) (.int .i64 t795)) (fun _ hk => by first | exact hk.2 | trivial) (.int .i64 t796)) (fun _ hk => by first | exact hk.2 | trivial) (.slice Ao79 t797.length co79)) (fun _ hk => by first | exact hk.2 | trivial) (.int .i64 t800)) (fun _ hk => by first | exact hk.2 | trivial) (.string t801)) (fun _ hk => by first | exact hk.2 | trivial) (.string t802)) (fun _ hk => by first | exact hk.2 | trivial) (.int .i64 t803)) (fun _ hk => by first | exact hk.2 | trivial) (.int .i64 t804)) (fun _ hk => by first | exact hk.2 | trivial) (.int .i64 t805)) (fun _ h_ => h_.1)) (fun _ h_ => h_.1))) : P := h
theorem z22_36 {P : Prop} (h : P := by repeat (first | (with_reducible first | exact HB.out | apply below_alloc | apply pw_below_drewN | apply below_drew1 | refine below_set ?_ GE732.out | refine below_set ?_ GE749.out | refine below_set ?_ GE766.out) | exact HB.out)) : P := h
theorem z22_35 {P : Prop} (h : P := by (with_reducible repeat (first | apply Kd.R_alloc | apply Kd.R_drewN | apply Kd.R_drew)); exact HO813.out) : P := h
theorem z22_34 {P : Prop} (h : P := by (with_reducible repeat (first | apply Kd.R_alloc | apply Kd.R_drewN | apply Kd.R_drew)); exact HO825.out) : P := h
theorem z22_33 {P : Prop} (h : P := by (with_reducible repeat (first | apply blk_far (hp := NB732_749.out) | refine blk_drewN ?_ _ | refine blk_drew ?_ | refine blk_alloc ?_ _)); exact BK732.out) : P := h
theorem z22_32 {P : Prop} (h : P := by (with_reducible repeat (first | apply blk_far (hp := NB732_766.out) | refine blk_drewN ?_ _ | refine blk_drew ?_ | refine blk_alloc ?_ _)); exact BK732.out) : P := h
theorem z22_31 {P : Prop} (h : P := by (with_reducible repeat (first | apply blk_far (hp := NB732_781.out) | refine blk_drewN ?_ _ | refine blk_drew ?_ | refine blk_alloc ?_ _)); exact BK732.out) : P := h
theorem z22_30 {P : Prop} (h : P := by (with_reducible repeat (first | apply blk_far (hp := NB749_766.out) | refine blk_drewN ?_ _ | refine blk_drew ?_ | refine blk_alloc ?_ _)); exact BK749.out) : P := h
theorem z22_29 {P : Prop} (h : P := by (with_reducible repeat (first | apply blk_far (hp := NB749_781.out) | refine blk_drewN ?_ _ | refine blk_drew ?_ | refine blk_alloc ?_ _)); exact BK749.out) : P := h
theorem z22_28 {P : Prop} (h : P := by (with_reducible repeat (first | apply blk_far (hp := NB766_781.out) | refine blk_drewN ?_ _ | refine blk_drew ?_ | refine blk_alloc ?_ _)); exact BK766.out) : P := h
theorem z22_27 {P : Prop} (h : P := by (with_reducible repeat (first | apply Kd.R_alloc | apply Kd.R_drewN | apply Kd.R_drew)); exact HO787.out) : P := h
theorem z22_26 {P : Prop} (h : P := by (with_reducible repeat (first | apply Kd.R_alloc | apply Kd.R_drewN | apply Kd.R_drew)); exact HO799.out) : P := h
theorem z22_25 {P : Prop} (h : P := by repeat (first | (with_reducible first | exact HB.out | apply below_alloc | apply pw_below_drewN | apply below_drew1 | refine below_set ?_ GE732.out | refine below_set ?_ GE749.out) | exact HB.out)) : P := h
theorem z22_24 {P : Prop} (h : P := by (with_reducible repeat (first | refine blk_drewN ?_ _ | refine blk_drew ?_ | refine blk_alloc ?_ _)); exact BK832.out) : P := h
theorem z22_23 {P : Prop} (h : P := by (with_reducible repeat (first | apply Kd.R_alloc | apply Kd.R_drewN | apply Kd.R_drew)); exact HO772.out) : P := h
theorem z22_22 {P : Prop} (h : P := by (with_reducible repeat (first | apply Kd.R_alloc | apply Kd.R_drewN | apply Kd.R_drew)); exact HO757.out) : P := h
theorem z22_21 {P : Prop} (h : P := by (with_reducible repeat (first | refine blk_drewN ?_ _ | refine blk_drew ?_ | refine blk_alloc ?_ _)); exact BK807.out) : P := h
theorem z22_20 {P : Prop} (h : P := by repeat (first | (with_reducible first | exact HB.out | apply below_alloc | apply pw_below_drewN | apply below_drew1 | refine below_set ?_ GE732.out | refine below_set ?_ GE749.out | refine below_set ?_ GE766.out | refine below_set ?_ GE781.out) | exact HB.out)) : P := h
theorem z22_19 {P : Prop} (h : P := by (with_reducible repeat (first | apply Kd.R_alloc | apply Kd.R_drewN | apply Kd.R_drew)); exact HO740.out) : P := h
theorem z22_18 {P : Prop} (h : P := by first | rfl | (simp only [List.map_toArray, List.map_cons, List.map_nil]; first | done | rfl)) : P := h
theorem z22_17 {P : Prop} (h : P := by (with_reducible repeat (first | refine blk_drewN ?_ _ | refine blk_drew ?_ | refine blk_alloc ?_ _)); exact BK806.out) : P := h
theorem z22_16 {P : Prop} (h : P := by (with_reducible repeat (first | apply Kd.R_alloc | apply Kd.R_drewN | apply Kd.R_drew)); exact HO725.out) : P := h
theorem z22_15 {P : Prop} (h : P := by (with_reducible repeat (first | apply blk_far (hp := NB732_807.out) | apply blk_far (hp := NB732_806.out) | refine blk_drewN ?_ _ | refine blk_drew ?_ | refine blk_alloc ?_ _)); exact BK732.out) : P := h
theorem z22_14 {P : Prop} (h : P := by (with_reducible repeat (first | apply blk_far (hp := NB732_833.out) | apply blk_far (hp := NB732_832.out) | refine blk_drewN ?_ _ | refine blk_drew ?_ | refine blk_alloc ?_ _)); exact BK732.out) : P := h
theorem z22_13 {P : Prop} (h : P := by (with_reducible repeat (first | apply blk_far (hp := NB749_807.out) | apply blk_far (hp := NB749_806.out) | refine blk_drewN ?_ _ | refine blk_drew ?_ | refine blk_alloc ?_ _)); exact BK749.out) : P := h
theorem z22_12 {P : Prop} (h : P := by (with_reducible repeat (first | apply blk_far (hp := NB749_833.out) | apply blk_far (hp := NB749_832.out) | refine blk_drewN ?_ _ | refine blk_drew ?_ | refine blk_alloc ?_ _)); exact BK749.out) : P := h
theorem z22_11 {P : Prop} (h : P := by (with_reducible repeat (first | apply blk_far (hp := NB766_807.out) | apply blk_far (hp := NB766_806.out) | refine blk_drewN ?_ _ | refine blk_drew ?_ | refine blk_alloc ?_ _)); exact BK766.out) : P := h
theorem z22_10 {P : Prop} (h : P := by (with_reducible repeat (first | apply blk_far (hp := NB766_833.out) | apply blk_far (hp := NB766_832.out) | refine blk_drewN ?_ _ | refine blk_drew ?_ | refine blk_alloc ?_ _)); exact BK766.out) : P := h
theorem z22_9 {P : Prop} (h : P := by (with_reducible repeat (first | apply blk_far (hp := NB781_807.out) | apply blk_far (hp := NB781_806.out) | refine blk_drewN ?_ _ | refine blk_drew ?_ | refine blk_alloc ?_ _)); exact BK781.out) : P := h
theorem z22_8 {P : Prop} (h : P := by (with_reducible repeat (first | apply blk_far (hp := NB781_833.out) | apply blk_far (hp := NB781_832.out) | refine blk_drewN ?_ _ | refine blk_drew ?_ | refine blk_alloc ?_ _)); exact BK781.out) : P := h
theorem z22_7 {P : Prop} (h : P := by (with_reducible repeat (first | apply blk_far (hp := NB806_833.out) | apply blk_far (hp := NB806_832.out) | refine blk_drewN ?_ _ | refine blk_drew ?_ | refine blk_alloc ?_ _)); exact BK806.out) : P := h
theorem z22_6 {P : Prop} (h : P := by (with_reducible repeat (first | apply blk_far (hp := NB807_833.out) | apply blk_far (hp := NB807_832.out) | refine blk_drewN ?_ _ | refine blk_drew ?_ | refine blk_alloc ?_ _)); exact BK807.out) : P := h
theorem z22_5 {P : Prop} (h : P := by repeat (first | (with_reducible first | exact HB.out | apply below_alloc | apply pw_below_drewN | apply below_drew1 | refine below_set ?_ GE732.out | refine below_set ?_ GE749.out | refine below_set ?_ GE766.out | refine below_set ?_ GE781.out | refine below_set ?_ GE806.out | refine below_set ?_ GE807.out) | exact HB.out)) : P := h
theorem z22_4 {P : Prop} (h : P := by (with_reducible repeat (first | refine blk_drewN ?_ _ | refine blk_drew ?_ | refine blk_alloc ?_ _)); exact BK781.out) : P := h
theorem z22_3 {P : Prop} (h : P := by (with_reducible repeat (first | refine blk_drewN ?_ _ | refine blk_drew ?_ | refine blk_alloc ?_ _)); exact BK766.out) : P := h
theorem z22_2 {P : Prop} (h : P := by (with_reducible repeat (first | refine blk_drewN ?_ _ | refine blk_drew ?_ | refine blk_alloc ?_ _)); exact BK749.out) : P := h
theorem z22_1 {P : Prop} (h : P := by (with_reducible repeat (first | refine blk_drewN ?_ _ | refine blk_drew ?_ | refine blk_alloc ?_ _)); exact BK732.out) : P := h
theorem z22_0 {P : Prop} (h : P := by repeat (first | (with_reducible first | exact HB.out | apply below_alloc | apply pw_below_drewN | apply below_drew1 | refine below_set ?_ GE732.out | refine below_set ?_ GE749.out | refine below_set ?_ GE766.out | refine below_set ?_ GE781.out | refine below_set ?_ GE806.out | refine below_set ?_ GE807.out | refine below_set ?_ GE832.out | refine below_set ?_ GE833.out) | exact HB.out)) : P := h
abbrev mk22_0 : Array Bool := mb 81 0
abbrev mk22_1 : Array Bool := mb 81 1
abbrev mk22_2 : Array Bool := mb 81 3
abbrev mk22_3 : Array Bool := mb 81 7
abbrev mk22_4 : Array Bool := mb 81 15
abbrev mk22_5 : Array Bool := mb 81 31
abbrev mk22_6 : Array Bool := mb 81 159
abbrev mk22_7 : Array Bool := mb 81 191
abbrev mk22_8 : Array Bool := mb 81 255
abbrev mk22_9 : Array Bool := mb 81 511
abbrev mk22_10 : Array Bool := mb 81 1023
abbrev mk22_11 : Array Bool := mb 81 2047
abbrev mk22_12 : Array Bool := mb 81 4095
abbrev mk22_13 : Array Bool := mb 81 8191
abbrev mk22_14 : Array Bool := mb 81 16383
abbrev mk22_15 : Array Bool := mb 81 32767
abbrev mk22_16 : Array Bool := mb 81 65535
abbrev mk22_17 : Array Bool := mb 81 131071
abbrev mk22_18 : Array Bool := mb 81 262143
abbrev mk22_19 : Array Bool := mb 81 524287
abbrev mk22_20 : Array Bool := mb 81 1048575
abbrev mk22_21 : Array Bool := mb 81 2097151
abbrev mk22_22 : Array Bool := mb 81 4194303
abbrev mk22_23 : Array Bool := mb 81 8388607
abbrev mk22_24 : Array Bool := mb 81 16777215
abbrev mk22_25 : Array Bool := mb 81 33554431
abbrev mk22_26 : Array Bool := mb 81 67108863
abbrev mk22_27 : Array Bool := mb 81 134217727
abbrev mk22_28 : Array Bool := mb 81 268435455
abbrev mk22_29 : Array Bool := mb 81 536870911
abbrev mk22_30 : Array Bool := mb 81 1073741823
abbrev mk22_31 : Array Bool := mb 81 2147483647
abbrev mk22_32 : Array Bool := mb 81 4294967295
abbrev mk22_33 : Array Bool := mb 81 8589934591
abbrev mk22_34 : Array Bool := mb 81 17179869183
abbrev mk22_35 : Array Bool := mb 81 34359738367
abbrev mk22_36 : Array Bool := mb 81 68719476735
abbrev mk22_37 : Array Bool := mb 81 137438953471
abbrev mk22_38 : Array Bool := mb 81 274877906943
abbrev mk22_39 : Array Bool := mb 81 549755813887
abbrev mk22_40 : Array Bool := mb 81 1099511627775
abbrev mk22_41 : Array Bool := mb 81 2199023255551
abbrev mk22_42 : Array Bool := mb 81 4398046511103
abbrev mk22_43 : Array Bool := mb 81 8796093022207
abbrev mk22_44 : Array Bool := mb 81 17592186044415
abbrev mk22_45 : Array Bool := mb 81 35184372088831
abbrev mk22_46 : Array Bool := mb 81 70368744177663
abbrev mk22_47 : Array Bool := mb 81 140737488355327
abbrev mk22_48 : Array Bool := mb 81 422212465065983
abbrev mk22_49 : Array Bool := mb 81 985162418487295
abbrev mk22_50 : Array Bool := mb 81 1125899906842623
abbrev mk22_51 : Array Bool := mb 81 2251799813685247
abbrev mk22_52 : Array Bool := mb 81 4503599627370495
abbrev mk22_53 : Array Bool := mb 81 9007199254740991
abbrev mk22_54 : Array Bool := mb 81 18014398509481983
abbrev mk22_55 : Array Bool := mb 81 36028797018963967
abbrev mk22_56 : Array Bool := mb 81 72057594037927935
abbrev mk22_57 : Array Bool := mb 81 216172782113783807
abbrev mk22_58 : Array Bool := mb 81 504403158265495551
abbrev mk22_59 : Array Bool := mb 81 576460752303423487
abbrev mk22_60 : Array Bool := mb 81 1152921504606846975
abbrev mk22_61 : Array Bool := mb 81 2305843009213693951
abbrev mk22_62 : Array Bool := mb 81 4611686018427387903
abbrev mk22_63 : Array Bool := mb 81 9223372036854775807
abbrev mk22_64 : Array Bool := mb 81 18446744073709551615
abbrev mk22_65 : Array Bool := mb 81 36893488147419103231
abbrev mk22_66 : Array Bool := mb 81 73786976294838206463
abbrev mk22_67 : Array Bool := mb 81 147573952589676412927
abbrev mk22_68 : Array Bool := mb 81 295147905179352825855
abbrev mk22_69 : Array Bool := mb 81 590295810358705651711
abbrev mk22_70 : Array Bool := mb 81 1180591620717411303423
abbrev mk22_71 : Array Bool := mb 81 2361183241434822606847
abbrev mk22_72 : Array Bool := mb 81 4722366482869645213695
abbrev mk22_73 : Array Bool := mb 81 9444732965739290427391
abbrev mk22_74 : Array Bool := mb 81 18889465931478580854783
abbrev mk22_75 : Array Bool := mb 81 37778931862957161709567
abbrev mk22_76 : Array Bool := mb 81 113336795588871485128703
abbrev mk22_77 : Array Bool := mb 81 151115727451828646838271
abbrev mk22_78 : Array Bool := mb 81 302231454903657293676543
abbrev mk22_79 : Array Bool := mb 81 604462909807314587353087
abbrev mk22_80 : Array Bool := mb 81 1208925819614629174706175
abbrev mk22_81 : Array Bool := mb 81 2417851639229258349412351
theorem z22_100 {P : Prop} (h : P := by repeat (first | exact HR0.out | (with_reducible refine Kd.C_alloc ?_ _) | (with_reducible refine Kd.C_drewN ?_ _) | (with_reducible refine Kd.C_drew ?_))) : P := h
theorem z22_101 {P : Prop} (h : P := by repeat (first | exact (Kd.R_reads' HO725.out).2.2 | (with_reducible refine Kd.C_alloc ?_ _) | (with_reducible refine Kd.C_drewN ?_ _) | (with_reducible refine Kd.C_drew ?_))) : P := h
theorem z22_102 {P : Prop} (h : P := by repeat (first | exact (Kd.R_reads' HO740.out).2.2 | (with_reducible refine Kd.C_alloc ?_ _) | (with_reducible refine Kd.C_drewN ?_ _) | (with_reducible refine Kd.C_drew ?_))) : P := h
theorem z22_103 {P : Prop} (h : P := by repeat (first | exact (Kd.R_reads' HO757.out).2.2 | (with_reducible refine Kd.C_alloc ?_ _) | (with_reducible refine Kd.C_drewN ?_ _) | (with_reducible refine Kd.C_drew ?_))) : P := h
theorem z22_104 {P : Prop} (h : P := by repeat (first | exact (Kd.R_reads' HO772.out).2.2 | (with_reducible refine Kd.C_alloc ?_ _) | (with_reducible refine Kd.C_drewN ?_ _) | (with_reducible refine Kd.C_drew ?_))) : P := h
theorem z22_105 {P : Prop} (h : P := by repeat (first | exact (Kd.R_reads' HO787.out).2.2 | (with_reducible refine Kd.C_alloc ?_ _) | (with_reducible refine Kd.C_drewN ?_ _) | (with_reducible refine Kd.C_drew ?_))) : P := h
theorem z22_106 {P : Prop} (h : P := by repeat (first | exact (Kd.R_reads' HO799.out).2.2 | (with_reducible refine Kd.C_alloc ?_ _) | (with_reducible refine Kd.C_drewN ?_ _) | (with_reducible refine Kd.C_drew ?_))) : P := h
theorem z22_107 {P : Prop} (h : P := by repeat (first | exact (Kd.R_reads' HO813.out).2.2 | (with_reducible refine Kd.C_alloc ?_ _) | (with_reducible refine Kd.C_drewN ?_ _) | (with_reducible refine Kd.C_drew ?_))) : P := h
theorem z22_108 {P : Prop} (h : P := by repeat (first | exact (Kd.R_reads' HO825.out).2.2 | (with_reducible refine Kd.C_alloc ?_ _) | (with_reducible refine Kd.C_drewN ?_ _) | (with_reducible refine Kd.C_drew ?_))) : P := h
def laws_FnActs.f (k : Nat) (l0 : List Int) : Option (Bool) := (laws_big.f l0).bind fun t719 => (if t719 = true then (some true) else ((spec_DrawActText.f k l0).bind fun bt720 => ((impl_ActText.f k bt720.1 bt720.2.1 bt720.2.2.1 bt720.2.2.2.1 bt720.2.2.2.2.1 bt720.2.2.2.2.2.1 bt720.2.2.2.2.2.2.1 bt720.2.2.2.2.2.2.2.1 bt720.2.2.2.2.2.2.2.2.1 bt720.2.2.2.2.2.2.2.2.2).bind fun bt733 => (if 2 + bt733.1.size ≤ 9223372036854775807 then (if ((⟨#[112, 113]⟩ : ByteArray) ++ bt733.1).size + 1 ≤ 9223372036854775807 then ((impl_ReadAct.f k (((⟨#[112, 113]⟩ : ByteArray) ++ bt733.1) ++ (⟨#[114]⟩ : ByteArray)) 2).bind fun bt735 => ((spec_DrawReadAct.f k l0).bind fun bt750 => ((impl_ReadAct.f k bt750.1 bt750.2).bind fun bt752 => ((spec_ReadAct.f k bt750.1 bt750.2).bind fun bt767 => ((spec_DrawSameAct.f k l0).bind fun bt782 => ((spec_DrawLater.f k l0).bind fun bt808 => ((spec_DrawNameOk.f k l0).bind fun t834 => ((spec_ActOk.f k bt720.1 bt720.2.1 bt720.2.2.1 bt720.2.2.2.1 bt720.2.2.2.2.1 bt720.2.2.2.2.2.1 bt720.2.2.2.2.2.2.1 bt720.2.2.2.2.2.2.2.1 bt720.2.2.2.2.2.2.2.2.1 bt720.2.2.2.2.2.2.2.2.2).bind fun t835 => (if (bt733.2 == t835) = true then ((impl_ActOk.f k bt720.1 bt720.2.1 bt720.2.2.1 bt720.2.2.2.1 bt720.2.2.2.2.1 bt720.2.2.2.2.2.1 bt720.2.2.2.2.2.2.1 bt720.2.2.2.2.2.2.2.1 bt720.2.2.2.2.2.2.2.2.1 bt720.2.2.2.2.2.2.2.2.2).bind fun t836 => (if (t836 == bt733.2) = true then (if bt733.2 = true then (if bt735.2.2.2.2.2.2.2.2.2.2.2 = true then ((spec_SameAct.f k bt735.1 bt735.2.1 bt735.2.2.1 bt735.2.2.2.1 bt735.2.2.2.2.1 bt735.2.2.2.2.2.1 bt735.2.2.2.2.2.2.1 bt735.2.2.2.2.2.2.2.1 bt735.2.2.2.2.2.2.2.2.1 bt735.2.2.2.2.2.2.2.2.2.1 bt720.1 bt720.2.1 bt720.2.2.1 bt720.2.2.2.1 bt720.2.2.2.2.1 bt720.2.2.2.2.2.1 bt720.2.2.2.2.2.2.1 bt720.2.2.2.2.2.2.2.1 bt720.2.2.2.2.2.2.2.2.1 bt720.2.2.2.2.2.2.2.2.2).bind fun t837 => (if t837 = true then (if bt735.2.2.2.2.2.2.2.2.2.2.1 = (wrap64 (2 + (bt733.1.size : Int))) then (if (bt752.2.2.2.2.2.2.2.2.2.2.2 == bt767.2.2.2.2.2.2.2.2.2.2.2) = true then (if bt752.2.2.2.2.2.2.2.2.2.2.1 = bt767.2.2.2.2.2.2.2.2.2.2.1 then ((spec_SameAct.f k bt752.1 bt752.2.1 bt752.2.2.1 bt752.2.2.2.1 bt752.2.2.2.2.1 bt752.2.2.2.2.2.1 bt752.2.2.2.2.2.2.1 bt752.2.2.2.2.2.2.2.1 bt752.2.2.2.2.2.2.2.2.1 bt752.2.2.2.2.2.2.2.2.2.1 bt767.1 bt767.2.1 bt767.2.2.1 bt767.2.2.2.1 bt767.2.2.2.2.1 bt767.2.2.2.2.2.1 bt767.2.2.2.2.2.2.1 bt767.2.2.2.2.2.2.2.1 bt767.2.2.2.2.2.2.2.2.1 bt767.2.2.2.2.2.2.2.2.2.1).bind fun t838 => (if t838 = true then ((impl_SameAct.f k bt782.1 bt782.2.1 bt782.2.2.1 bt782.2.2.2.1 bt782.2.2.2.2.1 bt782.2.2.2.2.2.1 bt782.2.2.2.2.2.2.1 bt782.2.2.2.2.2.2.2.1 bt782.2.2.2.2.2.2.2.2.1 bt782.2.2.2.2.2.2.2.2.2.1 bt782.2.2.2.2.2.2.2.2.2.2.1 bt782.2.2.2.2.2.2.2.2.2.2.2.1 bt782.2.2.2.2.2.2.2.2.2.2.2.2.1 bt782.2.2.2.2.2.2.2.2.2.2.2.2.2.1 bt782.2.2.2.2.2.2.2.2.2.2.2.2.2.2.1 bt782.2.2.2.2.2.2.2.2.2.2.2.2.2.2.2.1 bt782.2.2.2.2.2.2.2.2.2.2.2.2.2.2.2.2.1 bt782.2.2.2.2.2.2.2.2.2.2.2.2.2.2.2.2.2.1 bt782.2.2.2.2.2.2.2.2.2.2.2.2.2.2.2.2.2.2.1 bt782.2.2.2.2.2.2.2.2.2.2.2.2.2.2.2.2.2.2.2).bind fun t839 => ((spec_SameAct.f k bt782.1 bt782.2.1 bt782.2.2.1 bt782.2.2.2.1 bt782.2.2.2.2.1 bt782.2.2.2.2.2.1 bt782.2.2.2.2.2.2.1 bt782.2.2.2.2.2.2.2.1 bt782.2.2.2.2.2.2.2.2.1 bt782.2.2.2.2.2.2.2.2.2.1 bt782.2.2.2.2.2.2.2.2.2.2.1 bt782.2.2.2.2.2.2.2.2.2.2.2.1 bt782.2.2.2.2.2.2.2.2.2.2.2.2.1 bt782.2.2.2.2.2.2.2.2.2.2.2.2.2.1 bt782.2.2.2.2.2.2.2.2.2.2.2.2.2.2.1 bt782.2.2.2.2.2.2.2.2.2.2.2.2.2.2.2.1 bt782.2.2.2.2.2.2.2.2.2.2.2.2.2.2.2.2.1 bt782.2.2.2.2.2.2.2.2.2.2.2.2.2.2.2.2.2.1 bt782.2.2.2.2.2.2.2.2.2.2.2.2.2.2.2.2.2.2.1 bt782.2.2.2.2.2.2.2.2.2.2.2.2.2.2.2.2.2.2.2).bind fun t840 => (if (t839 == t840) = true then ((impl_Later.f bt808.1 bt808.2.1 bt808.2.2.1 bt808.2.2.2.1 bt808.2.2.2.2.1 bt808.2.2.2.2.2.1 bt808.2.2.2.2.2.2.1 bt808.2.2.2.2.2.2.2.1 bt808.2.2.2.2.2.2.2.2.1 bt808.2.2.2.2.2.2.2.2.2.1 bt808.2.2.2.2.2.2.2.2.2.2.1 bt808.2.2.2.2.2.2.2.2.2.2.2.1 bt808.2.2.2.2.2.2.2.2.2.2.2.2.1 bt808.2.2.2.2.2.2.2.2.2.2.2.2.2.1 bt808.2.2.2.2.2.2.2.2.2.2.2.2.2.2.1 bt808.2.2.2.2.2.2.2.2.2.2.2.2.2.2.2.1 bt808.2.2.2.2.2.2.2.2.2.2.2.2.2.2.2.2.1 bt808.2.2.2.2.2.2.2.2.2.2.2.2.2.2.2.2.2.1 bt808.2.2.2.2.2.2.2.2.2.2.2.2.2.2.2.2.2.2.1 bt808.2.2.2.2.2.2.2.2.2.2.2.2.2.2.2.2.2.2.2).bind fun t841 => ((spec_Later.f bt808.1 bt808.2.1 bt808.2.2.1 bt808.2.2.2.1 bt808.2.2.2.2.1 bt808.2.2.2.2.2.1 bt808.2.2.2.2.2.2.1 bt808.2.2.2.2.2.2.2.1 bt808.2.2.2.2.2.2.2.2.1 bt808.2.2.2.2.2.2.2.2.2.1 bt808.2.2.2.2.2.2.2.2.2.2.1 bt808.2.2.2.2.2.2.2.2.2.2.2.1 bt808.2.2.2.2.2.2.2.2.2.2.2.2.1 bt808.2.2.2.2.2.2.2.2.2.2.2.2.2.1 bt808.2.2.2.2.2.2.2.2.2.2.2.2.2.2.1 bt808.2.2.2.2.2.2.2.2.2.2.2.2.2.2.2.1 bt808.2.2.2.2.2.2.2.2.2.2.2.2.2.2.2.2.1 bt808.2.2.2.2.2.2.2.2.2.2.2.2.2.2.2.2.2.1 bt808.2.2.2.2.2.2.2.2.2.2.2.2.2.2.2.2.2.2.1 bt808.2.2.2.2.2.2.2.2.2.2.2.2.2.2.2.2.2.2.2).bind fun t842 => (if (t841 == t842) = true then ((impl_Later.f bt808.1 bt808.2.1 bt808.2.2.1 bt808.2.2.2.1 bt808.2.2.2.2.1 bt808.2.2.2.2.2.1 bt808.2.2.2.2.2.2.1 bt808.2.2.2.2.2.2.2.1 bt808.2.2.2.2.2.2.2.2.1 bt808.2.2.2.2.2.2.2.2.2.1 bt808.2.2.2.2.2.2.2.2.2.2.1 bt808.2.2.2.2.2.2.2.2.2.2.2.1 bt808.2.2.2.2.2.2.2.2.2.2.2.2.1 bt808.2.2.2.2.2.2.2.2.2.2.2.2.2.1 bt808.2.2.2.2.2.2.2.2.2.2.2.2.2.2.1 bt808.2.2.2.2.2.2.2.2.2.2.2.2.2.2.2.1 bt808.2.2.2.2.2.2.2.2.2.2.2.2.2.2.2.2.1 bt808.2.2.2.2.2.2.2.2.2.2.2.2.2.2.2.2.2.1 bt808.2.2.2.2.2.2.2.2.2.2.2.2.2.2.2.2.2.2.1 bt808.2.2.2.2.2.2.2.2.2.2.2.2.2.2.2.2.2.2.2).bind fun t843 => (if t843 = true then ((impl_Later.f bt808.2.2.2.2.2.2.2.2.2.2.1 bt808.2.2.2.2.2.2.2.2.2.2.2.1 bt808.2.2.2.2.2.2.2.2.2.2.2.2.1 bt808.2.2.2.2.2.2.2.2.2.2.2.2.2.1 bt808.2.2.2.2.2.2.2.2.2.2.2.2.2.2.1 bt808.2.2.2.2.2.2.2.2.2.2.2.2.2.2.2.1 bt808.2.2.2.2.2.2.2.2.2.2.2.2.2.2.2.2.1 bt808.2.2.2.2.2.2.2.2.2.2.2.2.2.2.2.2.2.1 bt808.2.2.2.2.2.2.2.2.2.2.2.2.2.2.2.2.2.2.1 bt808.2.2.2.2.2.2.2.2.2.2.2.2.2.2.2.2.2.2.2 bt808.1 bt808.2.1 bt808.2.2.1 bt808.2.2.2.1 bt808.2.2.2.2.1 bt808.2.2.2.2.2.1 bt808.2.2.2.2.2.2.1 bt808.2.2.2.2.2.2.2.1 bt808.2.2.2.2.2.2.2.2.1 bt808.2.2.2.2.2.2.2.2.2.1).bind fun t844 => (if t844 = true then (some false) else ((impl_NameOk.f k t834).bind fun t845 => ((spec_NameOk.f k t834).bind fun t846 => (some (t845 == t846)))))) else ((impl_NameOk.f k t834).bind fun t847 => ((spec_NameOk.f k t834).bind fun t848 => (some (t847 == t848)))))) else (some false)))) else (some false)))) else (some false))) else (some false)) else (some false)) else (some false)) else (some false))) else (some false)) else (if (bt752.2.2.2.2.2.2.2.2.2.2.2 == bt767.2.2.2.2.2.2.2.2.2.2.2) = true then (if bt752.2.2.2.2.2.2.2.2.2.2.1 = bt767.2.2.2.2.2.2.2.2.2.2.1 then ((spec_SameAct.f k bt752.1 bt752.2.1 bt752.2.2.1 bt752.2.2.2.1 bt752.2.2.2.2.1 bt752.2.2.2.2.2.1 bt752.2.2.2.2.2.2.1 bt752.2.2.2.2.2.2.2.1 bt752.2.2.2.2.2.2.2.2.1 bt752.2.2.2.2.2.2.2.2.2.1 bt767.1 bt767.2.1 bt767.2.2.1 bt767.2.2.2.1 bt767.2.2.2.2.1 bt767.2.2.2.2.2.1 bt767.2.2.2.2.2.2.1 bt767.2.2.2.2.2.2.2.1 bt767.2.2.2.2.2.2.2.2.1 bt767.2.2.2.2.2.2.2.2.2.1).bind fun t849 => (if t849 = true then ((impl_SameAct.f k bt782.1 bt782.2.1 bt782.2.2.1 bt782.2.2.2.1 bt782.2.2.2.2.1 bt782.2.2.2.2.2.1 bt782.2.2.2.2.2.2.1 bt782.2.2.2.2.2.2.2.1 bt782.2.2.2.2.2.2.2.2.1 bt782.2.2.2.2.2.2.2.2.2.1 bt782.2.2.2.2.2.2.2.2.2.2.1 bt782.2.2.2.2.2.2.2.2.2.2.2.1 bt782.2.2.2.2.2.2.2.2.2.2.2.2.1 bt782.2.2.2.2.2.2.2.2.2.2.2.2.2.1 bt782.2.2.2.2.2.2.2.2.2.2.2.2.2.2.1 bt782.2.2.2.2.2.2.2.2.2.2.2.2.2.2.2.1 bt782.2.2.2.2.2.2.2.2.2.2.2.2.2.2.2.2.1 bt782.2.2.2.2.2.2.2.2.2.2.2.2.2.2.2.2.2.1 bt782.2.2.2.2.2.2.2.2.2.2.2.2.2.2.2.2.2.2.1 bt782.2.2.2.2.2.2.2.2.2.2.2.2.2.2.2.2.2.2.2).bind fun t850 => ((spec_SameAct.f k bt782.1 bt782.2.1 bt782.2.2.1 bt782.2.2.2.1 bt782.2.2.2.2.1 bt782.2.2.2.2.2.1 bt782.2.2.2.2.2.2.1 bt782.2.2.2.2.2.2.2.1 bt782.2.2.2.2.2.2.2.2.1 bt782.2.2.2.2.2.2.2.2.2.1 bt782.2.2.2.2.2.2.2.2.2.2.1 bt782.2.2.2.2.2.2.2.2.2.2.2.1 bt782.2.2.2.2.2.2.2.2.2.2.2.2.1 bt782.2.2.2.2.2.2.2.2.2.2.2.2.2.1 bt782.2.2.2.2.2.2.2.2.2.2.2.2.2.2.1 bt782.2.2.2.2.2.2.2.2.2.2.2.2.2.2.2.1 bt782.2.2.2.2.2.2.2.2.2.2.2.2.2.2.2.2.1 bt782.2.2.2.2.2.2.2.2.2.2.2.2.2.2.2.2.2.1 bt782.2.2.2.2.2.2.2.2.2.2.2.2.2.2.2.2.2.2.1 bt782.2.2.2.2.2.2.2.2.2.2.2.2.2.2.2.2.2.2.2).bind fun t851 => (if (t850 == t851) = true then ((impl_Later.f bt808.1 bt808.2.1 bt808.2.2.1 bt808.2.2.2.1 bt808.2.2.2.2.1 bt808.2.2.2.2.2.1 bt808.2.2.2.2.2.2.1 bt808.2.2.2.2.2.2.2.1 bt808.2.2.2.2.2.2.2.2.1 bt808.2.2.2.2.2.2.2.2.2.1 bt808.2.2.2.2.2.2.2.2.2.2.1 bt808.2.2.2.2.2.2.2.2.2.2.2.1 bt808.2.2.2.2.2.2.2.2.2.2.2.2.1 bt808.2.2.2.2.2.2.2.2.2.2.2.2.2.1 bt808.2.2.2.2.2.2.2.2.2.2.2.2.2.2.1 bt808.2.2.2.2.2.2.2.2.2.2.2.2.2.2.2.1 bt808.2.2.2.2.2.2.2.2.2.2.2.2.2.2.2.2.1 bt808.2.2.2.2.2.2.2.2.2.2.2.2.2.2.2.2.2.1 bt808.2.2.2.2.2.2.2.2.2.2.2.2.2.2.2.2.2.2.1 bt808.2.2.2.2.2.2.2.2.2.2.2.2.2.2.2.2.2.2.2).bind fun t852 => ((spec_Later.f bt808.1 bt808.2.1 bt808.2.2.1 bt808.2.2.2.1 bt808.2.2.2.2.1 bt808.2.2.2.2.2.1 bt808.2.2.2.2.2.2.1 bt808.2.2.2.2.2.2.2.1 bt808.2.2.2.2.2.2.2.2.1 bt808.2.2.2.2.2.2.2.2.2.1 bt808.2.2.2.2.2.2.2.2.2.2.1 bt808.2.2.2.2.2.2.2.2.2.2.2.1 bt808.2.2.2.2.2.2.2.2.2.2.2.2.1 bt808.2.2.2.2.2.2.2.2.2.2.2.2.2.1 bt808.2.2.2.2.2.2.2.2.2.2.2.2.2.2.1 bt808.2.2.2.2.2.2.2.2.2.2.2.2.2.2.2.1 bt808.2.2.2.2.2.2.2.2.2.2.2.2.2.2.2.2.1 bt808.2.2.2.2.2.2.2.2.2.2.2.2.2.2.2.2.2.1 bt808.2.2.2.2.2.2.2.2.2.2.2.2.2.2.2.2.2.2.1 bt808.2.2.2.2.2.2.2.2.2.2.2.2.2.2.2.2.2.2.2).bind fun t853 => (if (t852 == t853) = true then ((impl_Later.f bt808.1 bt808.2.1 bt808.2.2.1 bt808.2.2.2.1 bt808.2.2.2.2.1 bt808.2.2.2.2.2.1 bt808.2.2.2.2.2.2.1 bt808.2.2.2.2.2.2.2.1 bt808.2.2.2.2.2.2.2.2.1 bt808.2.2.2.2.2.2.2.2.2.1 bt808.2.2.2.2.2.2.2.2.2.2.1 bt808.2.2.2.2.2.2.2.2.2.2.2.1 bt808.2.2.2.2.2.2.2.2.2.2.2.2.1 bt808.2.2.2.2.2.2.2.2.2.2.2.2.2.1 bt808.2.2.2.2.2.2.2.2.2.2.2.2.2.2.1 bt808.2.2.2.2.2.2.2.2.2.2.2.2.2.2.2.1 bt808.2.2.2.2.2.2.2.2.2.2.2.2.2.2.2.2.1 bt808.2.2.2.2.2.2.2.2.2.2.2.2.2.2.2.2.2.1 bt808.2.2.2.2.2.2.2.2.2.2.2.2.2.2.2.2.2.2.1 bt808.2.2.2.2.2.2.2.2.2.2.2.2.2.2.2.2.2.2.2).bind fun t854 => (if t854 = true then ((impl_Later.f bt808.2.2.2.2.2.2.2.2.2.2.1 bt808.2.2.2.2.2.2.2.2.2.2.2.1 bt808.2.2.2.2.2.2.2.2.2.2.2.2.1 bt808.2.2.2.2.2.2.2.2.2.2.2.2.2.1 bt808.2.2.2.2.2.2.2.2.2.2.2.2.2.2.1 bt808.2.2.2.2.2.2.2.2.2.2.2.2.2.2.2.1 bt808.2.2.2.2.2.2.2.2.2.2.2.2.2.2.2.2.1 bt808.2.2.2.2.2.2.2.2.2.2.2.2.2.2.2.2.2.1 bt808.2.2.2.2.2.2.2.2.2.2.2.2.2.2.2.2.2.2.1 bt808.2.2.2.2.2.2.2.2.2.2.2.2.2.2.2.2.2.2.2 bt808.1 bt808.2.1 bt808.2.2.1 bt808.2.2.2.1 bt808.2.2.2.2.1 bt808.2.2.2.2.2.1 bt808.2.2.2.2.2.2.1 bt808.2.2.2.2.2.2.2.1 bt808.2.2.2.2.2.2.2.2.1 bt808.2.2.2.2.2.2.2.2.2.1).bind fun t855 => (if t855 = true then (some false) else ((impl_NameOk.f k t834).bind fun t856 => ((spec_NameOk.f k t834).bind fun t857 => (some (t856 == t857)))))) else ((impl_NameOk.f k t834).bind fun t858 => ((spec_NameOk.f k t834).bind fun t859 => (some (t858 == t859)))))) else (some false)))) else (some false)))) else (some false))) else (some false)) else (some false))) else (some false))) else (some false)))))))))) else (none)) else (none)))))
def laws_FnActs.T12 : Bool × List (List Nat × List Nat) := (true, [([], []), ([], []), ([1], [1]), ([0, 2], [0, 2]), ([3, 2], [3]), ([4], [4]), ([5, 4, 4], [4, 5]), ([4], [4]), ([6, 7, 4], [4, 6, 7]), ([4, 8], [4, 8]), ([9, 6], [9]), ([10], [10]), ([11, 10], [10, 11]), ([12, 10, 10], [10, 12]), ([13], [13]), ([14, 13, 13], [13, 14]), ([15], [15]), ([15], [15]), ([16, 17, 15, 15], [15, 16, 17]), ([15, 18, 13], [13, 15, 18]), ([19, 18, 13], [13, 19]), ([20], [20]), ([20], [20]), ([22, 20], [20, 22]), ([23, 20], [20, 23]), ([21, 24, 20], [20, 21, 24]), ([20, 25, 13], [13, 20, 25]), ([13, 26, 10], [10, 13, 26]), ([10, 27], [10, 27]), ([28, 20], [28]), ([29], [29]), ([29], [29]), ([30, 31, 29], [29, 30, 31]), ([29, 32], [29, 32]), ([33, 29], [33]), ([34], [34]), ([34], [34]), ([35, 36, 34], [34, 35, 36]), ([34, 37], [34, 37]), ([38, 34], [38]), ([39], [39]), ([39], [39]), ([40, 41, 39, 39], [39, 40, 41]), ([39, 42], [39, 42]), ([43, 42], [43]), ([44], [44]), ([44], [44]), ([45, 46, 44, 44], [44, 45, 46]), ([44], [44]), ([44], [44]), ([48, 49, 47, 44], [44, 48, 49]), ([47, 50, 44], [44, 47, 50]), ([44, 51], [44, 51]), ([52, 50], [52]), ([53], [53]), ([53], [53]), ([54, 55, 53, 53], [53, 54, 55]), ([53], [53]), ([53], [53]), ([57, 58, 56, 53], [53, 57, 58]), ([56, 59, 53], [53, 56, 59]), ([53, 60], [53, 60]), ([61, 59], [61]), ([62], [62]), ([62], [62]), ([63, 64, 62, 62], [62, 63, 64]), ([65, 65, 62], [62, 65]), ([66], [66]), ([66], [66]), ([67, 68, 66, 66], [66, 67, 68]), ([66, 69, 62], [62, 66, 69]), ([70, 62], [62, 70]), ([62, 71], [62, 71]), ([72, 69], [72]), ([73], [73]), ([74, 73, 73], [73, 74]), ([73], [73]), ([76, 75, 73], [73, 76]), ([75, 77, 73], [73, 75, 77]), ([73, 78], [73, 78]), ([79, 77, 0, 1, 2, 3, 4, 5, 6, 7, 8, 9, 10, 11, 12, 13, 14, 15, 16, 17, 18, 19, 20, 21, 22, 23, 24, 25, 26, 27, 28, 29, 30, 31, 32, 33, 34, 35, 36, 37, 38, 39, 40, 41, 42, 43, 44, 45, 46, 47, 48, 49, 50, 51, 52, 53, 54, 55, 56, 57, 58, 59, 60, 61, 62, 63, 64, 65, 66, 67, 68, 69, 70, 71, 72, 73, 74, 75, 76, 77, 78, 79], [79])])
def laws_FnActs.B12 : List Nat := [0, 0, 2, 7, 15, 31, 63, 31, 255, 511, 1023, 2047, 4095, 8191, 16383, 32767, 65535, 65535, 262143, 524287, 1048575, 2097151, 2097151, 6291455, 14680063, 33554431, 67108863, 134217727, 268435455, 536870911, 1073741823, 1073741823, 4294967295, 8589934591, 17179869183, 34359738367, 34359738367, 137438953471, 274877906943, 549755813887, 1099511627775, 1099511627775, 4398046511103, 8796093022207, 17592186044415, 35184372088831, 35184372088831, 140737488355327, 35184372088831, 35184372088831, 1125899906842623, 2251799813685247, 4503599627370495, 9007199254740991, 18014398509481983, 18014398509481983, 72057594037927935, 18014398509481983, 18014398509481983, 576460752303423487, 1152921504606846975, 2305843009213693951, 4611686018427387903, 9223372036854775807, 9223372036854775807, 36893488147419103231, 73786976294838206463, 147573952589676412927, 147573952589676412927, 590295810358705651711, 1180591620717411303423, 2361183241434822606847, 4722366482869645213695, 9444732965739290427391, 18889465931478580854783, 37778931862957161709567, 18889465931478580854783, 151115727451828646838271, 302231454903657293676543, 604462909807314587353087, 1208925819614629174706175]
theorem laws_FnActs.tab12 : rtab .any (opsOf Try.f4 12) = laws_FnActs.T12 := by kernel_rfl
theorem laws_FnActs.bits12 : waitsOk laws_FnActs.T12.2 laws_FnActs.B12 = true := by kernel_rfl
set_option maxHeartbeats 8000000 in
set_option maxRecDepth 100000 in
theorem laws_FnActs.calls_true (k : Nat) (A0 : Option Addr) (c0 : Nat) (l0 : List Int) (w : World) (hr0 : Kd.C (Kd.int .u8) w A0 l0.length l0) (hc0 : l0.length ≤ c0) (h : laws_FnActs.f k l0 = some true) :
  Calls Try.prog 4 #[.slice A0 l0.length c0] w fun e w' => e = .returned (.bool true) ∧ Below w.heap.size w w' := by
 have hu31 := Try.underlying31
 have HR0 := Aside0.mk hr0
 have HC0 := Aside0.mk hc0
 clear hr0 hc0
 have HB := Aside0.mk (Below.refl w.heap.size w)
 have H := h
 unfold laws_FnActs.f at H
 clear h
 replace H := Option.bind_eq_some_iff.mp H
 obtain ⟨t719, A20, H⟩ := H
 (try dsimp only at H)
 have A2 := Aside0.mk A20
 clear A20
 by_cases c3 : t719 = true
 ·
  subst c3
  have H1 : (some true) = some true := rfl
  clear H
  have H := H1
  clear H1
  clear H
  go_enter Try.func4, Try.ntmps4
  go_wp2_with (first | ((with_reducible refine gate_callee (f := 7) rfl ?_); refine goesL_ (some 23) rfl rfl Try.func7 z22_64 rfl #[.slice A0 l0.length c0] rfl z22_18 ?_; (with_reducible refine (laws_big.calls _ _ l0 true _ ?side1 ?side2 A2.out).mono ?_); (case side1 => exact z22_100); (case side2 => exact HC0.out); rintro e w' ⟨rfl, ⟨nd, rfl⟩⟩; refine ⟨_, rfl, ?_⟩))
  go_ret
  exact ⟨z22_99, z22_66⟩
 replace c3 := Bool.eq_false_iff.mpr c3
 subst c3
 rw [if_neg (show ¬ (false = true) by decide)] at H
 replace H := Option.bind_eq_some_iff.mp H
 obtain ⟨⟨t720, t721, t722, t723, t726, t727, t728, t729, t730, t731⟩, A40, H⟩ := H
 (try dsimp only at H)
 have A4 := Aside0.mk A40
 clear A40
 replace H := Option.bind_eq_some_iff.mp H
 obtain ⟨⟨t733, t734⟩, A50, H⟩ := H
 (try dsimp only at H)
 have A5 := Aside0.mk A50
 clear A50
 by_cases c6 : 2 + t733.size ≤ 9223372036854775807
 rotate_left
 ·
  rw [if_neg c6] at H
  exact absurd H (by simp)
 rw [if_pos c6] at H
 have c6b0 := eq_true c6
 have c6b1 : decide (2 + t733.size ≤ 9223372036854775807) = true := decide_eq_true c6
 try have c6b2 : (9223372036854775807 < 2 + t733.size) = False := eq_false (Nat.not_lt.2 c6)
 by_cases c7 : ((⟨#[112, 113]⟩ : ByteArray) ++ t733).size + 1 ≤ 9223372036854775807
 rotate_left
 ·
  rw [if_neg c7] at H
  exact absurd H (by simp)
 rw [if_pos c7] at H
 have c7b0 := eq_true c7
 have c7b1 : decide (((⟨#[112, 113]⟩ : ByteArray) ++ t733).size + 1 ≤ 9223372036854775807) = true := decide_eq_true c7
 try have c7b2 : (9223372036854775807 < ((⟨#[112, 113]⟩ : ByteArray) ++ t733).size + 1) = False := eq_false (Nat.not_lt.2 c7)
 try have c7b3 := c7b2
 try simp only [ByteArray.size_append] at c7b3
 try have c7b4 := c7b3
 try simp only [show (⟨#[112, 113]⟩ : ByteArray).size = 2 from rfl] at c7b4
 replace H := Option.bind_eq_some_iff.mp H
 obtain ⟨⟨t735, t736, t737, t738, t741, t742, t743, t744, t745, t746, t747, t748⟩, A80, H⟩ := H
 (try dsimp only at H)
 have A8 := Aside0.mk A80
 clear A80
 replace H := Option.bind_eq_some_iff.mp H
 obtain ⟨⟨t750, t751⟩, A90, H⟩ := H
 (try dsimp only at H)
 have A9 := Aside0.mk A90
 clear A90
 replace H := Option.bind_eq_some_iff.mp H
 obtain ⟨⟨t752, t753, t754, t755, t758, t759, t760, t761, t762, t763, t764, t765⟩, A100, H⟩ := H
 (try dsimp only at H)
 have A10 := Aside0.mk A100
 clear A100
 replace H := Option.bind_eq_some_iff.mp H
 obtain ⟨⟨t767, t768, t769, t770, t773, t774, t775, t776, t777, t778, t779, t780⟩, A110, H⟩ := H
 (try dsimp only at H)
 have A11 := Aside0.mk A110
 clear A110
 replace H := Option.bind_eq_some_iff.mp H
 obtain ⟨⟨t782, t783, t784, t785, t788, t789, t790, t791, t792, t793, t794, t795, t796, t797, t800, t801, t802, t803, t804, t805⟩, A120, H⟩ := H
 (try dsimp only at H)
 have A12 := Aside0.mk A120
 clear A120
 replace H := Option.bind_eq_some_iff.mp H
 obtain ⟨⟨t808, t809, t810, t811, t814, t815, t816, t817, t818, t819, t820, t821, t822, t823, t826, t827, t828, t829, t830, t831⟩, A130, H⟩ := H
 (try dsimp only at H)
 have A13 := Aside0.mk A130
 clear A130
 replace H := Option.bind_eq_some_iff.mp H
 obtain ⟨t834, A140, H⟩ := H
 (try dsimp only at H)
 have A14 := Aside0.mk A140
 clear A140
 replace H := Option.bind_eq_some_iff.mp H
 obtain ⟨t835, A150, H⟩ := H
 (try dsimp only at H)
 have A15 := Aside0.mk A150
 clear A150
 go_enter Try.func4, Try.ntmps4
 try go_wp2_with (first | ((with_reducible refine gate_callee (f := 7) rfl ?_); refine goesL_ (some 23) rfl rfl Try.func7 z22_64 rfl #[.slice A0 l0.length c0] rfl z22_18 ?_; (with_reducible refine (laws_big.calls _ _ l0 false _ ?side1 ?side2 A2.out).mono ?_); (case side1 => exact z22_100); (case side2 => exact HC0.out); rintro e w' ⟨rfl, ⟨nd, rfl⟩⟩; refine ⟨_, rfl, ?_⟩) | ((with_reducible refine gate_callee (f := 8) rfl ?_); refine goesL_ (some 25) rfl rfl Try.func8 z22_64 rfl #[.slice A0 l0.length c0] rfl z22_18 ?_; (with_reducible refine (spec_DrawActText.calls k _ _ l0 t720 t721 t722 t723 t726 t727 t728 t729 t730 t731 _ ?side1 ?side2 A4.out).mono ?_); (case side1 => exact z22_100); (case side2 => exact HC0.out); rintro e w40 ⟨v724, rfl, ho0, hb⟩; refine ⟨_, rfl, ?_⟩; have HO725 := Aside0.mk (Kd.R_lower ho0 (below_size z22_66)); replace HB := Aside0.mk (below_step z22_66 hb); (try clear ho0)) | ((with_reducible refine gate_dst (N := 3) rfl ?_); (try (refine gate_guard (by rfl) ?_; dsimp only)); refine box_event ?hg (N := 3) ?hd (cs := #[.int .i64 0, .int .i64 0, .int .i64 0, .slice none 0 0, .int .i64 0, .string (⟨#[]⟩ : ByteArray), .string (⟨#[]⟩ : ByteArray), .int .i64 0, .int .i64 0, .int .i64 0]) (t := 31) ?hr ?_; (case hd => rfl); (case hg => rfl); (case hr => first | (go_simp; done) | (go_simp; rfl)); intro gb732 hg w41 hbox hb; replace HO725 := Aside0.mk (Kd.R_below z22_16 hb); have BK732 := Aside0.mk (hbox); have GW732 := gw_ w z22_66 hg; have GE732 := gw_ w z22_66 hg; replace HB := Aside0.mk (below_step z22_66 hb); clear hb hbox hg; have hcz42 := bc10 BK732.out; obtain ⟨Ao43, co43, eo43⟩ := Kd.R_slice HO725.out; subst eo43) | ((with_reducible refine gate_callee (f := 9) rfl ?_); refine goesL_ (some 28) rfl rfl Try.func9 z22_64 rfl #[.agg #[.int .i64 t720, .int .i64 t721, .int .i64 t722, .slice Ao43 t723.length co43, .int .i64 t726, .string t727, .string t728, .int .i64 t729, .int .i64 t730, .int .i64 t731]] rfl z22_18 ?_; (with_reducible refine (impl_ActText.calls k t720 t721 t722 _ _ t723 t726 t727 t728 t729 t730 t731 t733 t734 _ ?side1 ?side2 A5.out).mono ?_); (case side1 => refine (Kd.R_reads' (e := 3) (base := w.heap.size) (ok := fun k_ => True) (n := t723.length) (c := co43) ?_).2.2; exact z22_98); (case side2 => exact (Kd.R_reads' HO725.out).2.1); rintro e w44 ⟨rfl, hb⟩; refine ⟨_, rfl, ?_⟩; replace HO725 := Aside0.mk (Kd.R_below z22_98 hb); replace BK732 := Aside0.mk (blk_below (g := gb732) (o := .cells #[.int .i64 t720, .int .i64 t721, .int .i64 t722, .slice Ao43 t723.length co43, .int .i64 t726, .string t727, .string t728, .int .i64 t729, .int .i64 t730, .int .i64 t731] 31 (0, 0)) (by (with_reducible repeat (first | apply bpa10 | refine blk_drewN ?_ _ | refine blk_drew ?_ | refine blk_alloc ?_ _)); exact BK732.out) hb); replace HB := Aside0.mk (below_step z22_63 hb)) | ((with_reducible refine gate_callee (f := 10) rfl ?_); refine goesL_ (some 35) rfl rfl Try.func10 z22_64 rfl #[.string (((⟨#[112, 113]⟩ : ByteArray) ++ t733) ++ (⟨#[114]⟩ : ByteArray)), .int .i64 2] rfl z22_18 ?_; (with_reducible refine (impl_ReadAct.calls k (((⟨#[112, 113]⟩ : ByteArray) ++ t733) ++ (⟨#[114]⟩ : ByteArray)) 2 t735 t736 t737 t738 t741 t742 t743 t744 t745 t746 t747 t748 _ A8.out).mono ?_); rintro e w45 ⟨v739, rfl, ho0, hb⟩; refine ⟨_, rfl, ?_⟩; have HO740 := Aside0.mk (Kd.R_lower (Kd.R_new' ho0 (Kd.R_lt z22_16)) (below_size z22_63)); replace HO725 := Aside0.mk (Kd.R_elder' z22_16 (Kd.R_base ho0) hb); replace BK732 := bb_ BK732 z22_1 hb; replace HB := Aside0.mk (below_step z22_63 hb); (try clear ho0)) | ((with_reducible refine gate_dst (N := 6) rfl ?_); (try (refine gate_guard (by rfl) ?_; dsimp only)); refine box_event ?hg (N := 6) ?hd (cs := #[.int .i64 0, .int .i64 0, .int .i64 0, .slice none 0 0, .int .i64 0, .string (⟨#[]⟩ : ByteArray), .string (⟨#[]⟩ : ByteArray), .int .i64 0, .int .i64 0, .int .i64 0]) (t := 31) ?hr ?_; (case hd => rfl); (case hg => rfl); (case hr => first | (go_simp; done) | (go_simp; rfl)); intro gb749 hg w46 hbox hb; replace HO725 := Aside0.mk (Kd.R_below z22_16 hb); replace HO740 := Aside0.mk (Kd.R_below z22_19 hb); have BK749 := Aside0.mk (hbox); have GW749 := gw_ w z22_63 hg; have GE749 := gw_ w z22_63 hg; replace HB := Aside0.mk (below_step z22_63 hb); have NB732_749 := nb_ BK732 z22_1 hg; have NB749_732 := nc_ BK732 z22_1 hg; replace BK732 := bb_ BK732 z22_1 hb; clear hb hbox hg; have hnb47 := NB749_732.out; have hnc47 := NB732_749.out; have hcz48 := bc10 BK749.out; obtain ⟨Ao49, co49, eo49⟩ := Kd.R_slice HO740.out; subst eo49) | ((with_reducible refine gate_callee (f := 11) rfl ?_); refine goesL_ (some 41) rfl rfl Try.func11 z22_64 rfl #[.slice A0 l0.length c0] rfl z22_18 ?_; (with_reducible refine (spec_DrawReadAct.calls k _ _ l0 t750 t751 _ ?side1 ?side2 A9.out).mono ?_); (case side1 => exact Kd.C_below HR0.out z22_25); (case side2 => exact HC0.out); rintro e w50 ⟨rfl, hb⟩; refine ⟨_, rfl, ?_⟩; replace HO725 := Aside0.mk (Kd.R_below (by (with_reducible repeat (first | apply Kd.R_alloc | apply Kd.R_drewN | apply Kd.R_drew)); exact (Kd.R_mono (Kd.R_far (p := ⟨gb749, 9, none⟩) (Kd.R_far (p := ⟨gb749, 8, none⟩) (Kd.R_far (p := ⟨gb749, 7, none⟩) (Kd.R_far (p := ⟨gb749, 6, none⟩) (Kd.R_far (p := ⟨gb749, 5, none⟩) (Kd.R_far (p := ⟨gb749, 4, none⟩) (Kd.R_far (p := ⟨gb749, 3, none⟩) (Kd.R_far (p := ⟨gb749, 2, none⟩) (Kd.R_far (p := ⟨gb749, 1, none⟩) (Kd.R_far (p := ⟨gb749, 0, none⟩) (Kd.R_types HO725.out BK749.out (by decide)) (fun _ hk => by first | exact hk.2 | trivial) (.int .i64 t735)) (fun _ hk => by first | exact hk.2 | trivial) (.int .i64 t736)) (fun _ hk => by first | exact hk.2 | trivial) (.int .i64 t737)) (fun _ hk => by first | exact hk.2 | trivial) (.slice Ao49 t738.length co49)) (fun _ hk => by first | exact hk.2 | trivial) (.int .i64 t741)) (fun _ hk => by first | exact hk.2 | trivial) (.string t742)) (fun _ hk => by first | exact hk.2 | trivial) (.string t743)) (fun _ hk => by first | exact hk.2 | trivial) (.int .i64 t744)) (fun _ hk => by first | exact hk.2 | trivial) (.int .i64 t745)) (fun _ hk => by first | exact hk.2 | trivial) (.int .i64 t746)) (fun _ h_ => h_.1))) hb); replace HO740 := Aside0.mk (Kd.R_below (by (with_reducible repeat (first | apply Kd.R_alloc | apply Kd.R_drewN | apply Kd.R_drew)); exact (Kd.R_mono (Kd.R_far (p := ⟨gb749, 9, none⟩) (Kd.R_far (p := ⟨gb749, 8, none⟩) (Kd.R_far (p := ⟨gb749, 7, none⟩) (Kd.R_far (p := ⟨gb749, 6, none⟩) (Kd.R_far (p := ⟨gb749, 5, none⟩) (Kd.R_far (p := ⟨gb749, 4, none⟩) (Kd.R_far (p := ⟨gb749, 3, none⟩) (Kd.R_far (p := ⟨gb749, 2, none⟩) (Kd.R_far (p := ⟨gb749, 1, none⟩) (Kd.R_far (p := ⟨gb749, 0, none⟩) (Kd.R_types HO740.out BK749.out (by decide)) (fun _ hk => by first | exact hk.2 | trivial) (.int .i64 t735)) (fun _ hk => by first | exact hk.2 | trivial) (.int .i64 t736)) (fun _ hk => by first | exact hk.2 | trivial) (.int .i64 t737)) (fun _ hk => by first | exact hk.2 | trivial) (.slice Ao49 t738.length co49)) (fun _ hk => by first | exact hk.2 | trivial) (.int .i64 t741)) (fun _ hk => by first | exact hk.2 | trivial) (.string t742)) (fun _ hk => by first | exact hk.2 | trivial) (.string t743)) (fun _ hk => by first | exact hk.2 | trivial) (.int .i64 t744)) (fun _ hk => by first | exact hk.2 | trivial) (.int .i64 t745)) (fun _ hk => by first | exact hk.2 | trivial) (.int .i64 t746)) (fun _ h_ => h_.1))) hb); replace BK732 := bb_ BK732 z22_33 hb; replace BK749 := Aside0.mk (blk_below (g := gb749) (o := .cells #[.int .i64 t735, .int .i64 t736, .int .i64 t737, .slice Ao49 t738.length co49, .int .i64 t741, .string t742, .string t743, .int .i64 t744, .int .i64 t745, .int .i64 t746] 31 (0, 0)) (by (with_reducible repeat (first | apply bpa10 | refine blk_drewN ?_ _ | refine blk_drew ?_ | refine blk_alloc ?_ _)); exact BK749.out) hb); replace HB := Aside0.mk (below_step z22_25 hb)) | ((with_reducible refine gate_callee (f := 10) rfl ?_); refine goesL_ (some 47) rfl rfl Try.func10 z22_64 rfl #[.string t750, .int .i64 t751] rfl z22_18 ?_; (with_reducible refine (impl_ReadAct.calls k t750 t751 t752 t753 t754 t755 t758 t759 t760 t761 t762 t763 t764 t765 _ A10.out).mono ?_); rintro e w51 ⟨v756, rfl, ho0, hb⟩; refine ⟨_, rfl, ?_⟩; have HO757 := Aside0.mk (Kd.R_lower (Kd.R_new' (Kd.R_new' ho0 (Kd.R_lt z22_16)) (Kd.R_lt z22_19)) (below_size z22_25)); replace HO725 := Aside0.mk (Kd.R_elder' z22_16 (Kd.R_base ho0) hb); replace HO740 := Aside0.mk (Kd.R_elder' z22_19 (Kd.R_base ho0) hb); replace BK732 := bb_ BK732 z22_1 hb; replace BK749 := bb_ BK749 z22_2 hb; replace HB := Aside0.mk (below_step z22_25 hb); (try clear ho0)) | ((with_reducible refine gate_dst (N := 11) rfl ?_); (try (refine gate_guard (by rfl) ?_; dsimp only)); refine box_event ?hg (N := 11) ?hd (cs := #[.int .i64 0, .int .i64 0, .int .i64 0, .slice none 0 0, .int .i64 0, .string (⟨#[]⟩ : ByteArray), .string (⟨#[]⟩ : ByteArray), .int .i64 0, .int .i64 0, .int .i64 0]) (t := 31) ?hr ?_; (case hd => rfl); (case hg => rfl); (case hr => first | (go_simp; done) | (go_simp; rfl)); intro gb766 hg w52 hbox hb; replace HO725 := Aside0.mk (Kd.R_below z22_16 hb); replace HO740 := Aside0.mk (Kd.R_below z22_19 hb); replace HO757 := Aside0.mk (Kd.R_below z22_22 hb); have BK766 := Aside0.mk (hbox); have GW766 := gw_ w z22_25 hg; have GE766 := gw_ w z22_25 hg; replace HB := Aside0.mk (below_step z22_25 hb); have NB732_766 := nb_ BK732 z22_1 hg; have NB766_732 := nc_ BK732 z22_1 hg; replace BK732 := bb_ BK732 z22_1 hb; have NB749_766 := nb_ BK749 z22_2 hg; have NB766_749 := nc_ BK749 z22_2 hg; replace BK749 := bb_ BK749 z22_2 hb; clear hb hbox hg; have hnb53 := NB766_732.out; have hnc53 := NB732_766.out; have hnb54 := NB766_749.out; have hnc54 := NB749_766.out; have hcz55 := bc10 BK766.out; obtain ⟨Ao56, co56, eo56⟩ := Kd.R_slice HO757.out; subst eo56) | ((with_reducible refine gate_callee (f := 12) rfl ?_); refine goesL_ (some 54) rfl rfl Try.func12 z22_64 rfl #[.string t750, .int .i64 t751] rfl z22_18 ?_; (with_reducible refine (spec_ReadAct.calls k t750 t751 t767 t768 t769 t770 t773 t774 t775 t776 t777 t778 t779 t780 _ A11.out).mono ?_); rintro e w57 ⟨v771, rfl, ho0, hb⟩; refine ⟨_, rfl, ?_⟩; have HO772 := Aside0.mk (Kd.R_lower (Kd.R_new' (Kd.R_new' (Kd.R_new' ho0 (Kd.R_lt z22_97)) (Kd.R_lt z22_96)) (Kd.R_lt z22_95)) (below_size z22_36)); replace HO725 := Aside0.mk (Kd.R_elder' z22_97 (Kd.R_base ho0) hb); replace HO740 := Aside0.mk (Kd.R_elder' z22_96 (Kd.R_base ho0) hb); replace HO757 := Aside0.mk (Kd.R_elder' z22_95 (Kd.R_base ho0) hb); replace BK732 := bb_ BK732 z22_32 hb; replace BK749 := bb_ BK749 z22_30 hb; replace BK766 := Aside0.mk (blk_below (g := gb766) (o := .cells #[.int .i64 t752, .int .i64 t753, .int .i64 t754, .slice Ao56 t755.length co56, .int .i64 t758, .string t759, .string t760, .int .i64 t761, .int .i64 t762, .int .i64 t763] 31 (0, 0)) (by (with_reducible repeat (first | apply bpa10 | refine blk_drewN ?_ _ | refine blk_drew ?_ | refine blk_alloc ?_ _)); exact BK766.out) hb); replace HB := Aside0.mk (below_step z22_36 hb); (try clear ho0)) | ((with_reducible refine gate_dst (N := 14) rfl ?_); (try (refine gate_guard (by rfl) ?_; dsimp only)); refine box_event ?hg (N := 14) ?hd (cs := #[.int .i64 0, .int .i64 0, .int .i64 0, .slice none 0 0, .int .i64 0, .string (⟨#[]⟩ : ByteArray), .string (⟨#[]⟩ : ByteArray), .int .i64 0, .int .i64 0, .int .i64 0]) (t := 31) ?hr ?_; (case hd => rfl); (case hg => rfl); (case hr => first | (go_simp; done) | (go_simp; rfl)); intro gb781 hg w58 hbox hb; replace HO725 := Aside0.mk (Kd.R_below z22_16 hb); replace HO740 := Aside0.mk (Kd.R_below z22_19 hb); replace HO757 := Aside0.mk (Kd.R_below z22_22 hb); replace HO772 := Aside0.mk (Kd.R_below z22_23 hb); have BK781 := Aside0.mk (hbox); have GW781 := gw_ w z22_36 hg; have GE781 := gw_ w z22_36 hg; replace HB := Aside0.mk (below_step z22_36 hb); have NB732_781 := nb_ BK732 z22_1 hg; have NB781_732 := nc_ BK732 z22_1 hg; replace BK732 := bb_ BK732 z22_1 hb; have NB749_781 := nb_ BK749 z22_2 hg; have NB781_749 := nc_ BK749 z22_2 hg; replace BK749 := bb_ BK749 z22_2 hb; have NB766_781 := nb_ BK766 z22_3 hg; have NB781_766 := nc_ BK766 z22_3 hg; replace BK766 := bb_ BK766 z22_3 hb; clear hb hbox hg; have hnb59 := NB781_732.out; have hnc59 := NB732_781.out; have hnb60 := NB781_749.out; have hnc60 := NB749_781.out; have hnb61 := NB781_766.out; have hnc61 := NB766_781.out; have hcz62 := bc10 BK781.out; obtain ⟨Ao63, co63, eo63⟩ := Kd.R_slice HO772.out; subst eo63) | ((with_reducible refine gate_callee (f := 13) rfl ?_); refine goesL_ (some 60) rfl rfl Try.func13 z22_64 rfl #[.slice A0 l0.length c0] rfl z22_18 ?_; (with_reducible refine (spec_DrawSameAct.calls k _ _ l0 t782 t783 t784 t785 t788 t789 t790 t791 t792 t793 t794 t795 t796 t797 t800 t801 t802 t803 t804 t805 _ ?side1 ?side2 A12.out).mono ?_); (case side1 => exact Kd.C_below HR0.out z22_20); (case side2 => exact HC0.out); rintro e w64 ⟨v786, v798, rfl, ho0, ho1, hb⟩; refine ⟨_, rfl, ?_⟩; have HO787 := Aside0.mk (Kd.R_lower (Kd.R_new' (Kd.R_new' (Kd.R_new' (Kd.R_new' ho0 (Kd.R_lt z22_82)) (Kd.R_lt z22_81)) (Kd.R_lt z22_80)) (Kd.R_lt z22_79)) (below_size z22_20)); have HO799 := Aside0.mk (Kd.R_lower (Kd.R_new' (Kd.R_new' (Kd.R_new' (Kd.R_new' ho1 (Kd.R_lt z22_82)) (Kd.R_lt z22_81)) (Kd.R_lt z22_80)) (Kd.R_lt z22_79)) (below_size z22_20)); replace HO725 := Aside0.mk (Kd.R_mono (Kd.R_told (Kd.R_told (Kd.R_old z22_82 hb) (Kd.R_base ho0)) (Kd.R_base ho1)) (fun _ h_ => h_.1)); replace HO740 := Aside0.mk (Kd.R_mono (Kd.R_told (Kd.R_told (Kd.R_old z22_81 hb) (Kd.R_base ho0)) (Kd.R_base ho1)) (fun _ h_ => h_.1)); replace HO757 := Aside0.mk (Kd.R_mono (Kd.R_told (Kd.R_told (Kd.R_old z22_80 hb) (Kd.R_base ho0)) (Kd.R_base ho1)) (fun _ h_ => h_.1)); replace HO772 := Aside0.mk (Kd.R_mono (Kd.R_told (Kd.R_told (Kd.R_old z22_79 hb) (Kd.R_base ho0)) (Kd.R_base ho1)) (fun _ h_ => h_.1)); replace BK732 := bb_ BK732 z22_31 hb; replace BK749 := bb_ BK749 z22_29 hb; replace BK766 := bb_ BK766 z22_28 hb; replace BK781 := Aside0.mk (blk_below (g := gb781) (o := .cells #[.int .i64 t767, .int .i64 t768, .int .i64 t769, .slice Ao63 t770.length co63, .int .i64 t773, .string t774, .string t775, .int .i64 t776, .int .i64 t777, .int .i64 t778] 31 (0, 0)) (by (with_reducible repeat (first | apply bpa10 | refine blk_drewN ?_ _ | refine blk_drew ?_ | refine blk_alloc ?_ _)); exact BK781.out) hb); replace HB := Aside0.mk (below_step z22_20 hb); (try clear ho0); (try clear ho1)) | ((with_reducible refine gate_dst (N := 17) rfl ?_); (try (refine gate_guard (by rfl) ?_; dsimp only)); refine box_event ?hg (N := 17) ?hd (cs := #[.int .i64 0, .int .i64 0, .int .i64 0, .slice none 0 0, .int .i64 0, .string (⟨#[]⟩ : ByteArray), .string (⟨#[]⟩ : ByteArray), .int .i64 0, .int .i64 0, .int .i64 0]) (t := 31) ?hr ?_; (case hd => rfl); (case hg => rfl); (case hr => first | (go_simp; done) | (go_simp; rfl)); intro gb806 hg w65 hbox hb; replace HO725 := Aside0.mk (Kd.R_below z22_16 hb); replace HO740 := Aside0.mk (Kd.R_below z22_19 hb); replace HO757 := Aside0.mk (Kd.R_below z22_22 hb); replace HO772 := Aside0.mk (Kd.R_below z22_23 hb); replace HO787 := Aside0.mk (Kd.R_below z22_27 hb); replace HO799 := Aside0.mk (Kd.R_below z22_26 hb); have BK806 := Aside0.mk (hbox); have GW806 := gw_ w z22_20 hg; have GE806 := gw_ w z22_20 hg; replace HB := Aside0.mk (below_step z22_20 hb); have NB732_806 := nb_ BK732 z22_1 hg; have NB806_732 := nc_ BK732 z22_1 hg; replace BK732 := bb_ BK732 z22_1 hb; have NB749_806 := nb_ BK749 z22_2 hg; have NB806_749 := nc_ BK749 z22_2 hg; replace BK749 := bb_ BK749 z22_2 hb; have NB766_806 := nb_ BK766 z22_3 hg; have NB806_766 := nc_ BK766 z22_3 hg; replace BK766 := bb_ BK766 z22_3 hb; have NB781_806 := nb_ BK781 z22_4 hg; have NB806_781 := nc_ BK781 z22_4 hg; replace BK781 := bb_ BK781 z22_4 hb; clear hb hbox hg) | ((with_reducible refine gate_dst (N := 18) rfl ?_); (try (refine gate_guard (by rfl) ?_; dsimp only)); refine box_event ?hg (N := 18) ?hd (cs := #[.int .i64 0, .int .i64 0, .int .i64 0, .slice none 0 0, .int .i64 0, .string (⟨#[]⟩ : ByteArray), .string (⟨#[]⟩ : ByteArray), .int .i64 0, .int .i64 0, .int .i64 0]) (t := 31) ?hr ?_; (case hd => rfl); (case hg => rfl); (case hr => first | (go_simp; done) | (go_simp; rfl)); intro gb807 hg w66 hbox hb; replace HO725 := Aside0.mk (Kd.R_below z22_16 hb); replace HO740 := Aside0.mk (Kd.R_below z22_19 hb); replace HO757 := Aside0.mk (Kd.R_below z22_22 hb); replace HO772 := Aside0.mk (Kd.R_below z22_23 hb); replace HO787 := Aside0.mk (Kd.R_below z22_27 hb); replace HO799 := Aside0.mk (Kd.R_below z22_26 hb); have BK807 := Aside0.mk (hbox); have GW807 := gw_ w z22_65 hg; have GE807 := gw_ w z22_65 hg; replace HB := Aside0.mk (below_step z22_65 hb); have NB732_807 := nb_ BK732 z22_1 hg; have NB807_732 := nc_ BK732 z22_1 hg; replace BK732 := bb_ BK732 z22_1 hb; have NB749_807 := nb_ BK749 z22_2 hg; have NB807_749 := nc_ BK749 z22_2 hg; replace BK749 := bb_ BK749 z22_2 hb; have NB766_807 := nb_ BK766 z22_3 hg; have NB807_766 := nc_ BK766 z22_3 hg; replace BK766 := bb_ BK766 z22_3 hb; have NB781_807 := nb_ BK781 z22_4 hg; have NB807_781 := nc_ BK781 z22_4 hg; replace BK781 := bb_ BK781 z22_4 hb; have NB806_807 := nb_ BK806 z22_17 hg; have NB807_806 := nc_ BK806 z22_17 hg; replace BK806 := bb_ BK806 z22_17 hb; clear hb hbox hg; have hnb67 := NB806_732.out; have hnc67 := NB732_806.out; have hnb68 := NB806_749.out; have hnc68 := NB749_806.out; have hnb69 := NB806_766.out; have hnc69 := NB766_806.out; have hnb70 := NB806_781.out; have hnc70 := NB781_806.out; have hnb71 := NB806_807.out; have hnc71 := NB807_806.out; have hcz72 := bc10 BK806.out; obtain ⟨Ao73, co73, eo73⟩ := Kd.R_slice HO787.out; subst eo73; have hnb74 := NB807_732.out; have hnc74 := NB732_807.out; have hnb75 := NB807_749.out; have hnc75 := NB749_807.out; have hnb76 := NB807_766.out; have hnc76 := NB766_807.out; have hnb77 := NB807_781.out; have hnc77 := NB781_807.out; have hcz78 := bc10 BK807.out; obtain ⟨Ao79, co79, eo79⟩ := Kd.R_slice HO799.out; subst eo79) | ((with_reducible refine gate_callee (f := 14) rfl ?_); refine goesL_ (some 65) rfl rfl Try.func14 z22_64 rfl #[.slice A0 l0.length c0] rfl z22_18 ?_; (with_reducible refine (spec_DrawLater.calls k _ _ l0 t808 t809 t810 t811 t814 t815 t816 t817 t818 t819 t820 t821 t822 t823 t826 t827 t828 t829 t830 t831 _ ?side1 ?side2 A13.out).mono ?_); (case side1 => exact Kd.C_below HR0.out z22_5); (case side2 => exact HC0.out); rintro e w80 ⟨v812, v824, rfl, ho0, ho1, hb⟩; refine ⟨_, rfl, ?_⟩; have HO813 := Aside0.mk (Kd.R_lower (Kd.R_new' (Kd.R_new' (Kd.R_new' (Kd.R_new' (Kd.R_new' (Kd.R_new' ho0 (Kd.R_lt z22_60)) (Kd.R_lt z22_59)) (Kd.R_lt z22_58)) (Kd.R_lt z22_57)) (Kd.R_lt z22_56)) (Kd.R_lt z22_55)) (below_size z22_5)); have HO825 := Aside0.mk (Kd.R_lower (Kd.R_new' (Kd.R_new' (Kd.R_new' (Kd.R_new' (Kd.R_new' (Kd.R_new' ho1 (Kd.R_lt z22_60)) (Kd.R_lt z22_59)) (Kd.R_lt z22_58)) (Kd.R_lt z22_57)) (Kd.R_lt z22_56)) (Kd.R_lt z22_55)) (below_size z22_5)); replace HO725 := Aside0.mk (Kd.R_mono (Kd.R_told (Kd.R_told (Kd.R_old z22_60 hb) (Kd.R_base ho0)) (Kd.R_base ho1)) (fun _ h_ => h_.1)); replace HO740 := Aside0.mk (Kd.R_mono (Kd.R_told (Kd.R_told (Kd.R_old z22_59 hb) (Kd.R_base ho0)) (Kd.R_base ho1)) (fun _ h_ => h_.1)); replace HO757 := Aside0.mk (Kd.R_mono (Kd.R_told (Kd.R_told (Kd.R_old z22_58 hb) (Kd.R_base ho0)) (Kd.R_base ho1)) (fun _ h_ => h_.1)); replace HO772 := Aside0.mk (Kd.R_mono (Kd.R_told (Kd.R_told (Kd.R_old z22_57 hb) (Kd.R_base ho0)) (Kd.R_base ho1)) (fun _ h_ => h_.1)); replace HO787 := Aside0.mk (Kd.R_mono (Kd.R_told (Kd.R_told (Kd.R_old z22_56 hb) (Kd.R_base ho0)) (Kd.R_base ho1)) (fun _ h_ => h_.1)); replace HO799 := Aside0.mk (Kd.R_mono (Kd.R_told (Kd.R_told (Kd.R_old z22_55 hb) (Kd.R_base ho0)) (Kd.R_base ho1)) (fun _ h_ => h_.1)); replace BK732 := bb_ BK732 z22_15 hb; replace BK749 := bb_ BK749 z22_13 hb; replace BK766 := bb_ BK766 z22_11 hb; replace BK781 := bb_ BK781 z22_9 hb; replace BK806 := Aside0.mk (blk_below (g := gb806) (o := .cells #[.int .i64 t782, .int .i64 t783, .int .i64 t784, .slice Ao73 t785.length co73, .int .i64 t788, .string t789, .string t790, .int .i64 t791, .int .i64 t792, .int .i64 t793] 31 (0, 0)) (by (with_reducible repeat (first | apply bpa10 | apply blk_far (hp := NB806_807.out) | refine blk_drewN ?_ _ | refine blk_drew ?_ | refine blk_alloc ?_ _)); exact BK806.out) hb); replace BK807 := Aside0.mk (blk_below (g := gb807) (o := .cells #[.int .i64 t794, .int .i64 t795, .int .i64 t796, .slice Ao79 t797.length co79, .int .i64 t800, .string t801, .string t802, .int .i64 t803, .int .i64 t804, .int .i64 t805] 31 (0, 0)) (by (with_reducible repeat (first | apply bpa10 | apply blk_far (hp := NB807_806.out) | refine blk_drewN ?_ _ | refine blk_drew ?_ | refine blk_alloc ?_ _)); exact BK807.out) hb); replace HB := Aside0.mk (below_step z22_5 hb); (try clear ho0); (try clear ho1)) | ((with_reducible refine gate_dst (N := 19) rfl ?_); (try (refine gate_guard (by rfl) ?_; dsimp only)); refine box_event ?hg (N := 19) ?hd (cs := #[.int .i64 0, .int .i64 0, .int .i64 0, .slice none 0 0, .int .i64 0, .string (⟨#[]⟩ : ByteArray), .string (⟨#[]⟩ : ByteArray), .int .i64 0, .int .i64 0, .int .i64 0]) (t := 31) ?hr ?_; (case hd => rfl); (case hg => rfl); (case hr => first | (go_simp; done) | (go_simp; rfl)); intro gb832 hg w81 hbox hb; replace HO725 := Aside0.mk (Kd.R_below z22_16 hb); replace HO740 := Aside0.mk (Kd.R_below z22_19 hb); replace HO757 := Aside0.mk (Kd.R_below z22_22 hb); replace HO772 := Aside0.mk (Kd.R_below z22_23 hb); replace HO787 := Aside0.mk (Kd.R_below z22_27 hb); replace HO799 := Aside0.mk (Kd.R_below z22_26 hb); replace HO813 := Aside0.mk (Kd.R_below z22_35 hb); replace HO825 := Aside0.mk (Kd.R_below z22_34 hb); have BK832 := Aside0.mk (hbox); have GW832 := gw_ w z22_5 hg; have GE832 := gw_ w z22_5 hg; replace HB := Aside0.mk (below_step z22_5 hb); have NB732_832 := nb_ BK732 z22_1 hg; have NB832_732 := nc_ BK732 z22_1 hg; replace BK732 := bb_ BK732 z22_1 hb; have NB749_832 := nb_ BK749 z22_2 hg; have NB832_749 := nc_ BK749 z22_2 hg; replace BK749 := bb_ BK749 z22_2 hb; have NB766_832 := nb_ BK766 z22_3 hg; have NB832_766 := nc_ BK766 z22_3 hg; replace BK766 := bb_ BK766 z22_3 hb; have NB781_832 := nb_ BK781 z22_4 hg; have NB832_781 := nc_ BK781 z22_4 hg; replace BK781 := bb_ BK781 z22_4 hb; have NB806_832 := nb_ BK806 z22_17 hg; have NB832_806 := nc_ BK806 z22_17 hg; replace BK806 := bb_ BK806 z22_17 hb; have NB807_832 := nb_ BK807 z22_21 hg; have NB832_807 := nc_ BK807 z22_21 hg; replace BK807 := bb_ BK807 z22_21 hb; clear hb hbox hg) | ((with_reducible refine gate_dst (N := 20) rfl ?_); (try (refine gate_guard (by rfl) ?_; dsimp only)); refine box_event ?hg (N := 20) ?hd (cs := #[.int .i64 0, .int .i64 0, .int .i64 0, .slice none 0 0, .int .i64 0, .string (⟨#[]⟩ : ByteArray), .string (⟨#[]⟩ : ByteArray), .int .i64 0, .int .i64 0, .int .i64 0]) (t := 31) ?hr ?_; (case hd => rfl); (case hg => rfl); (case hr => first | (go_simp; done) | (go_simp; rfl)); intro gb833 hg w82 hbox hb; replace HO725 := Aside0.mk (Kd.R_below z22_16 hb); replace HO740 := Aside0.mk (Kd.R_below z22_19 hb); replace HO757 := Aside0.mk (Kd.R_below z22_22 hb); replace HO772 := Aside0.mk (Kd.R_below z22_23 hb); replace HO787 := Aside0.mk (Kd.R_below z22_27 hb); replace HO799 := Aside0.mk (Kd.R_below z22_26 hb); replace HO813 := Aside0.mk (Kd.R_below z22_35 hb); replace HO825 := Aside0.mk (Kd.R_below z22_34 hb); have BK833 := Aside0.mk (hbox); have GW833 := gw_ w z22_62 hg; have GE833 := gw_ w z22_62 hg; replace HB := Aside0.mk (below_step z22_62 hb); have NB732_833 := nb_ BK732 z22_1 hg; have NB833_732 := nc_ BK732 z22_1 hg; replace BK732 := bb_ BK732 z22_1 hb; have NB749_833 := nb_ BK749 z22_2 hg; have NB833_749 := nc_ BK749 z22_2 hg; replace BK749 := bb_ BK749 z22_2 hb; have NB766_833 := nb_ BK766 z22_3 hg; have NB833_766 := nc_ BK766 z22_3 hg; replace BK766 := bb_ BK766 z22_3 hb; have NB781_833 := nb_ BK781 z22_4 hg; have NB833_781 := nc_ BK781 z22_4 hg; replace BK781 := bb_ BK781 z22_4 hb; have NB806_833 := nb_ BK806 z22_17 hg; have NB833_806 := nc_ BK806 z22_17 hg; replace BK806 := bb_ BK806 z22_17 hb; have NB807_833 := nb_ BK807 z22_21 hg; have NB833_807 := nc_ BK807 z22_21 hg; replace BK807 := bb_ BK807 z22_21 hb; have NB832_833 := nb_ BK832 z22_24 hg; have NB833_832 := nc_ BK832 z22_24 hg; replace BK832 := bb_ BK832 z22_24 hb; clear hb hbox hg; have hnb83 := NB832_732.out; have hnc83 := NB732_832.out; have hnb84 := NB832_749.out; have hnc84 := NB749_832.out; have hnb85 := NB832_766.out; have hnc85 := NB766_832.out; have hnb86 := NB832_781.out; have hnc86 := NB781_832.out; have hnb87 := NB832_806.out; have hnc87 := NB806_832.out; have hnb88 := NB832_807.out; have hnc88 := NB807_832.out; have hnb89 := NB832_833.out; have hnc89 := NB833_832.out; have hcz90 := bc10 BK832.out; obtain ⟨Ao91, co91, eo91⟩ := Kd.R_slice HO813.out; subst eo91; have hnb92 := NB833_732.out; have hnc92 := NB732_833.out; have hnb93 := NB833_749.out; have hnc93 := NB749_833.out; have hnb94 := NB833_766.out; have hnc94 := NB766_833.out; have hnb95 := NB833_781.out; have hnc95 := NB781_833.out; have hnb96 := NB833_806.out; have hnc96 := NB806_833.out; have hnb97 := NB833_807.out; have hnc97 := NB807_833.out; have hcz98 := bc10 BK833.out; obtain ⟨Ao99, co99, eo99⟩ := Kd.R_slice HO825.out; subst eo99) | ((with_reducible refine gate_callee (f := 15) rfl ?_); refine goesL_ (some 69) rfl rfl Try.func15 z22_64 rfl #[.slice A0 l0.length c0] rfl z22_18 ?_; (with_reducible refine (spec_DrawNameOk.calls k _ _ l0 t834 _ ?side1 ?side2 A14.out).mono ?_); (case side1 => exact Kd.C_below HR0.out z22_0); (case side2 => exact HC0.out); rintro e w100 ⟨rfl, hb⟩; refine ⟨_, rfl, ?_⟩; replace HO725 := Aside0.mk (Kd.R_below (by (with_reducible repeat (first | apply Kd.R_alloc | apply Kd.R_drewN | apply Kd.R_drew)); exact (Kd.R_mono (Kd.R_mono (Kd.R_far (p := ⟨gb833, 9, none⟩) (Kd.R_far (p := ⟨gb833, 8, none⟩) (Kd.R_far (p := ⟨gb833, 7, none⟩) (Kd.R_far (p := ⟨gb833, 6, none⟩) (Kd.R_far (p := ⟨gb833, 5, none⟩) (Kd.R_far (p := ⟨gb833, 4, none⟩) (Kd.R_far (p := ⟨gb833, 3, none⟩) (Kd.R_far (p := ⟨gb833, 2, none⟩) (Kd.R_far (p := ⟨gb833, 1, none⟩) (Kd.R_far (p := ⟨gb833, 0, none⟩) (Kd.R_far (p := ⟨gb832, 9, none⟩) (Kd.R_far (p := ⟨gb832, 8, none⟩) (Kd.R_far (p := ⟨gb832, 7, none⟩) (Kd.R_far (p := ⟨gb832, 6, none⟩) (Kd.R_far (p := ⟨gb832, 5, none⟩) (Kd.R_far (p := ⟨gb832, 4, none⟩) (Kd.R_far (p := ⟨gb832, 3, none⟩) (Kd.R_far (p := ⟨gb832, 2, none⟩) (Kd.R_far (p := ⟨gb832, 1, none⟩) (Kd.R_far (p := ⟨gb832, 0, none⟩) (Kd.R_types (Kd.R_types HO725.out BK832.out (by decide)) BK833.out (by decide)) (fun _ hk => hk.1.2) (.int .i64 t808)) (fun _ hk => hk.1.2) (.int .i64 t809)) (fun _ hk => hk.1.2) (.int .i64 t810)) (fun _ hk => hk.1.2) (.slice Ao91 t811.length co91)) (fun _ hk => hk.1.2) (.int .i64 t814)) (fun _ hk => hk.1.2) (.string t815)) (fun _ hk => hk.1.2) (.string t816)) (fun _ hk => hk.1.2) (.int .i64 t817)) (fun _ hk => hk.1.2) (.int .i64 t818)) (fun _ hk => hk.1.2) (.int .i64 t819)) (fun _ hk => by first | exact hk.2 | trivial) (.int .i64 t820)) (fun _ hk => by first | exact hk.2 | trivial) (.int .i64 t821)) (fun _ hk => by first | exact hk.2 | trivial) (.int .i64 t822)) (fun _ hk => by first | exact hk.2 | trivial) (.slice Ao99 t823.length co99)) (fun _ hk => by first | exact hk.2 | trivial) (.int .i64 t826)) (fun _ hk => by first | exact hk.2 | trivial) (.string t827)) (fun _ hk => by first | exact hk.2 | trivial) (.string t828)) (fun _ hk => by first | exact hk.2 | trivial) (.int .i64 t829)) (fun _ hk => by first | exact hk.2 | trivial) (.int .i64 t830)) (fun _ hk => by first | exact hk.2 | trivial) (.int .i64 t831)) (fun _ h_ => h_.1)) (fun _ h_ => h_.1))) hb); replace HO740 := Aside0.mk (Kd.R_below (by (with_reducible repeat (first | apply Kd.R_alloc | apply Kd.R_drewN | apply Kd.R_drew)); exact (Kd.R_mono (Kd.R_mono (Kd.R_far (p := ⟨gb833, 9, none⟩) (Kd.R_far (p := ⟨gb833, 8, none⟩) (Kd.R_far (p := ⟨gb833, 7, none⟩) (Kd.R_far (p := ⟨gb833, 6, none⟩) (Kd.R_far (p := ⟨gb833, 5, none⟩) (Kd.R_far (p := ⟨gb833, 4, none⟩) (Kd.R_far (p := ⟨gb833, 3, none⟩) (Kd.R_far (p := ⟨gb833, 2, none⟩) (Kd.R_far (p := ⟨gb833, 1, none⟩) (Kd.R_far (p := ⟨gb833, 0, none⟩) (Kd.R_far (p := ⟨gb832, 9, none⟩) (Kd.R_far (p := ⟨gb832, 8, none⟩) (Kd.R_far (p := ⟨gb832, 7, none⟩) (Kd.R_far (p := ⟨gb832, 6, none⟩) (Kd.R_far (p := ⟨gb832, 5, none⟩) (Kd.R_far (p := ⟨gb832, 4, none⟩) (Kd.R_far (p := ⟨gb832, 3, none⟩) (Kd.R_far (p := ⟨gb832, 2, none⟩) (Kd.R_far (p := ⟨gb832, 1, none⟩) (Kd.R_far (p := ⟨gb832, 0, none⟩) (Kd.R_types (Kd.R_types HO740.out BK832.out (by decide)) BK833.out (by decide)) (fun _ hk => hk.1.2) (.int .i64 t808)) (fun _ hk => hk.1.2) (.int .i64 t809)) (fun _ hk => hk.1.2) (.int .i64 t810)) (fun _ hk => hk.1.2) (.slice Ao91 t811.length co91)) (fun _ hk => hk.1.2) (.int .i64 t814)) (fun _ hk => hk.1.2) (.string t815)) (fun _ hk => hk.1.2) (.string t816)) (fun _ hk => hk.1.2) (.int .i64 t817)) (fun _ hk => hk.1.2) (.int .i64 t818)) (fun _ hk => hk.1.2) (.int .i64 t819)) (fun _ hk => by first | exact hk.2 | trivial) (.int .i64 t820)) (fun _ hk => by first | exact hk.2 | trivial) (.int .i64 t821)) (fun _ hk => by first | exact hk.2 | trivial) (.int .i64 t822)) (fun _ hk => by first | exact hk.2 | trivial) (.slice Ao99 t823.length co99)) (fun _ hk => by first | exact hk.2 | trivial) (.int .i64 t826)) (fun _ hk => by first | exact hk.2 | trivial) (.string t827)) (fun _ hk => by first | exact hk.2 | trivial) (.string t828)) (fun _ hk => by first | exact hk.2 | trivial) (.int .i64 t829)) (fun _ hk => by first | exact hk.2 | trivial) (.int .i64 t830)) (fun _ hk => by first | exact hk.2 | trivial) (.int .i64 t831)) (fun _ h_ => h_.1)) (fun _ h_ => h_.1))) hb); replace HO757 := Aside0.mk (Kd.R_below (by (with_reducible repeat (first | apply Kd.R_alloc | apply Kd.R_drewN | apply Kd.R_drew)); exact (Kd.R_mono (Kd.R_mono (Kd.R_far (p := ⟨gb833, 9, none⟩) (Kd.R_far (p := ⟨gb833, 8, none⟩) (Kd.R_far (p := ⟨gb833, 7, none⟩) (Kd.R_far (p := ⟨gb833, 6, none⟩) (Kd.R_far (p := ⟨gb833, 5, none⟩) (Kd.R_far (p := ⟨gb833, 4, none⟩) (Kd.R_far (p := ⟨gb833, 3, none⟩) (Kd.R_far (p := ⟨gb833, 2, none⟩) (Kd.R_far (p := ⟨gb833, 1, none⟩) (Kd.R_far (p := ⟨gb833, 0, none⟩) (Kd.R_far (p := ⟨gb832, 9, none⟩) (Kd.R_far (p := ⟨gb832, 8, none⟩) (Kd.R_far (p := ⟨gb832, 7, none⟩) (Kd.R_far (p := ⟨gb832, 6, none⟩) (Kd.R_far (p := ⟨gb832, 5, none⟩) (Kd.R_far (p := ⟨gb832, 4, none⟩) (Kd.R_far (p := ⟨gb832, 3, none⟩) (Kd.R_far (p := ⟨gb832, 2, none⟩) (Kd.R_far (p := ⟨gb832, 1, none⟩) (Kd.R_far (p := ⟨gb832, 0, none⟩) (Kd.R_types (Kd.R_types HO757.out BK832.out (by decide)) BK833.out (by decide)) (fun _ hk => hk.1.2) (.int .i64 t808)) (fun _ hk => hk.1.2) (.int .i64 t809)) (fun _ hk => hk.1.2) (.int .i64 t810)) (fun _ hk => hk.1.2) (.slice Ao91 t811.length co91)) (fun _ hk => hk.1.2) (.int .i64 t814)) (fun _ hk => hk.1.2) (.string t815)) (fun _ hk => hk.1.2) (.string t816)) (fun _ hk => hk.1.2) (.int .i64 t817)) (fun _ hk => hk.1.2) (.int .i64 t818)) (fun _ hk => hk.1.2) (.int .i64 t819)) (fun _ hk => by first | exact hk.2 | trivial) (.int .i64 t820)) (fun _ hk => by first | exact hk.2 | trivial) (.int .i64 t821)) (fun _ hk => by first | exact hk.2 | trivial) (.int .i64 t822)) (fun _ hk => by first | exact hk.2 | trivial) (.slice Ao99 t823.length co99)) (fun _ hk => by first | exact hk.2 | trivial) (.int .i64 t826)) (fun _ hk => by first | exact hk.2 | trivial) (.string t827)) (fun _ hk => by first | exact hk.2 | trivial) (.string t828)) (fun _ hk => by first | exact hk.2 | trivial) (.int .i64 t829)) (fun _ hk => by first | exact hk.2 | trivial) (.int .i64 t830)) (fun _ hk => by first | exact hk.2 | trivial) (.int .i64 t831)) (fun _ h_ => h_.1)) (fun _ h_ => h_.1))) hb); replace HO772 := Aside0.mk (Kd.R_below (by (with_reducible repeat (first | apply Kd.R_alloc | apply Kd.R_drewN | apply Kd.R_drew)); exact (Kd.R_mono (Kd.R_mono (Kd.R_far (p := ⟨gb833, 9, none⟩) (Kd.R_far (p := ⟨gb833, 8, none⟩) (Kd.R_far (p := ⟨gb833, 7, none⟩) (Kd.R_far (p := ⟨gb833, 6, none⟩) (Kd.R_far (p := ⟨gb833, 5, none⟩) (Kd.R_far (p := ⟨gb833, 4, none⟩) (Kd.R_far (p := ⟨gb833, 3, none⟩) (Kd.R_far (p := ⟨gb833, 2, none⟩) (Kd.R_far (p := ⟨gb833, 1, none⟩) (Kd.R_far (p := ⟨gb833, 0, none⟩) (Kd.R_far (p := ⟨gb832, 9, none⟩) (Kd.R_far (p := ⟨gb832, 8, none⟩) (Kd.R_far (p := ⟨gb832, 7, none⟩) (Kd.R_far (p := ⟨gb832, 6, none⟩) (Kd.R_far (p := ⟨gb832, 5, none⟩) (Kd.R_far (p := ⟨gb832, 4, none⟩) (Kd.R_far (p := ⟨gb832, 3, none⟩) (Kd.R_far (p := ⟨gb832, 2, none⟩) (Kd.R_far (p := ⟨gb832, 1, none⟩) (Kd.R_far (p := ⟨gb832, 0, none⟩) (Kd.R_types (Kd.R_types HO772.out BK832.out (by decide)) BK833.out (by decide)) (fun _ hk => hk.1.2) (.int .i64 t808)) (fun _ hk => hk.1.2) (.int .i64 t809)) (fun _ hk => hk.1.2) (.int .i64 t810)) (fun _ hk => hk.1.2) (.slice Ao91 t811.length co91)) (fun _ hk => hk.1.2) (.int .i64 t814)) (fun _ hk => hk.1.2) (.string t815)) (fun _ hk => hk.1.2) (.string t816)) (fun _ hk => hk.1.2) (.int .i64 t817)) (fun _ hk => hk.1.2) (.int .i64 t818)) (fun _ hk => hk.1.2) (.int .i64 t819)) (fun _ hk => by first | exact hk.2 | trivial) (.int .i64 t820)) (fun _ hk => by first | exact hk.2 | trivial) (.int .i64 t821)) (fun _ hk => by first | exact hk.2 | trivial) (.int .i64 t822)) (fun _ hk => by first | exact hk.2 | trivial) (.slice Ao99 t823.length co99)) (fun _ hk => by first | exact hk.2 | trivial) (.int .i64 t826)) (fun _ hk => by first | exact hk.2 | trivial) (.string t827)) (fun _ hk => by first | exact hk.2 | trivial) (.string t828)) (fun _ hk => by first | exact hk.2 | trivial) (.int .i64 t829)) (fun _ hk => by first | exact hk.2 | trivial) (.int .i64 t830)) (fun _ hk => by first | exact hk.2 | trivial) (.int .i64 t831)) (fun _ h_ => h_.1)) (fun _ h_ => h_.1))) hb); replace HO787 := Aside0.mk (Kd.R_below (by (with_reducible repeat (first | apply Kd.R_alloc | apply Kd.R_drewN | apply Kd.R_drew)); exact (Kd.R_mono (Kd.R_mono (Kd.R_far (p := ⟨gb833, 9, none⟩) (Kd.R_far (p := ⟨gb833, 8, none⟩) (Kd.R_far (p := ⟨gb833, 7, none⟩) (Kd.R_far (p := ⟨gb833, 6, none⟩) (Kd.R_far (p := ⟨gb833, 5, none⟩) (Kd.R_far (p := ⟨gb833, 4, none⟩) (Kd.R_far (p := ⟨gb833, 3, none⟩) (Kd.R_far (p := ⟨gb833, 2, none⟩) (Kd.R_far (p := ⟨gb833, 1, none⟩) (Kd.R_far (p := ⟨gb833, 0, none⟩) (Kd.R_far (p := ⟨gb832, 9, none⟩) (Kd.R_far (p := ⟨gb832, 8, none⟩) (Kd.R_far (p := ⟨gb832, 7, none⟩) (Kd.R_far (p := ⟨gb832, 6, none⟩) (Kd.R_far (p := ⟨gb832, 5, none⟩) (Kd.R_far (p := ⟨gb832, 4, none⟩) (Kd.R_far (p := ⟨gb832, 3, none⟩) (Kd.R_far (p := ⟨gb832, 2, none⟩) (Kd.R_far (p := ⟨gb832, 1, none⟩) (Kd.R_far (p := ⟨gb832, 0, none⟩) (Kd.R_types (Kd.R_types HO787.out BK832.out (by decide)) BK833.out (by decide)) (fun _ hk => hk.1.2) (.int .i64 t808)) (fun _ hk => hk.1.2) (.int .i64 t809)) (fun _ hk => hk.1.2) (.int .i64 t810)) (fun _ hk => hk.1.2) (.slice Ao91 t811.length co91)) (fun _ hk => hk.1.2) (.int .i64 t814)) (fun _ hk => hk.1.2) (.string t815)) (fun _ hk => hk.1.2) (.string t816)) (fun _ hk => hk.1.2) (.int .i64 t817)) (fun _ hk => hk.1.2) (.int .i64 t818)) (fun _ hk => hk.1.2) (.int .i64 t819)) (fun _ hk => by first | exact hk.2 | trivial) (.int .i64 t820)) (fun _ hk => by first | exact hk.2 | trivial) (.int .i64 t821)) (fun _ hk => by first | exact hk.2 | trivial) (.int .i64 t822)) (fun _ hk => by first | exact hk.2 | trivial) (.slice Ao99 t823.length co99)) (fun _ hk => by first | exact hk.2 | trivial) (.int .i64 t826)) (fun _ hk => by first | exact hk.2 | trivial) (.string t827)) (fun _ hk => by first | exact hk.2 | trivial) (.string t828)) (fun _ hk => by first | exact hk.2 | trivial) (.int .i64 t829)) (fun _ hk => by first | exact hk.2 | trivial) (.int .i64 t830)) (fun _ hk => by first | exact hk.2 | trivial) (.int .i64 t831)) (fun _ h_ => h_.1)) (fun _ h_ => h_.1))) hb); replace HO799 := Aside0.mk (Kd.R_below (by (with_reducible repeat (first | apply Kd.R_alloc | apply Kd.R_drewN | apply Kd.R_drew)); exact (Kd.R_mono (Kd.R_mono (Kd.R_far (p := ⟨gb833, 9, none⟩) (Kd.R_far (p := ⟨gb833, 8, none⟩) (Kd.R_far (p := ⟨gb833, 7, none⟩) (Kd.R_far (p := ⟨gb833, 6, none⟩) (Kd.R_far (p := ⟨gb833, 5, none⟩) (Kd.R_far (p := ⟨gb833, 4, none⟩) (Kd.R_far (p := ⟨gb833, 3, none⟩) (Kd.R_far (p := ⟨gb833, 2, none⟩) (Kd.R_far (p := ⟨gb833, 1, none⟩) (Kd.R_far (p := ⟨gb833, 0, none⟩) (Kd.R_far (p := ⟨gb832, 9, none⟩) (Kd.R_far (p := ⟨gb832, 8, none⟩) (Kd.R_far (p := ⟨gb832, 7, none⟩) (Kd.R_far (p := ⟨gb832, 6, none⟩) (Kd.R_far (p := ⟨gb832, 5, none⟩) (Kd.R_far (p := ⟨gb832, 4, none⟩) (Kd.R_far (p := ⟨gb832, 3, none⟩) (Kd.R_far (p := ⟨gb832, 2, none⟩) (Kd.R_far (p := ⟨gb832, 1, none⟩) (Kd.R_far (p := ⟨gb832, 0, none⟩) (Kd.R_types (Kd.R_types HO799.out BK832.out (by decide)) BK833.out (by decide)) (fun _ hk => hk.1.2) (.int .i64 t808)) (fun _ hk => hk.1.2) (.int .i64 t809)) (fun _ hk => hk.1.2) (.int .i64 t810)) (fun _ hk => hk.1.2) (.slice Ao91 t811.length co91)) (fun _ hk => hk.1.2) (.int .i64 t814)) (fun _ hk => hk.1.2) (.string t815)) (fun _ hk => hk.1.2) (.string t816)) (fun _ hk => hk.1.2) (.int .i64 t817)) (fun _ hk => hk.1.2) (.int .i64 t818)) (fun _ hk => hk.1.2) (.int .i64 t819)) (fun _ hk => by first | exact hk.2 | trivial) (.int .i64 t820)) (fun _ hk => by first | exact hk.2 | trivial) (.int .i64 t821)) (fun _ hk => by first | exact hk.2 | trivial) (.int .i64 t822)) (fun _ hk => by first | exact hk.2 | trivial) (.slice Ao99 t823.length co99)) (fun _ hk => by first | exact hk.2 | trivial) (.int .i64 t826)) (fun _ hk => by first | exact hk.2 | trivial) (.string t827)) (fun _ hk => by first | exact hk.2 | trivial) (.string t828)) (fun _ hk => by first | exact hk.2 | trivial) (.int .i64 t829)) (fun _ hk => by first | exact hk.2 | trivial) (.int .i64 t830)) (fun _ hk => by first | exact hk.2 | trivial) (.int .i64 t831)) (fun _ h_ => h_.1)) (fun _ h_ => h_.1))) hb); replace HO813 := Aside0.mk (Kd.R_below (by (with_reducible repeat (first | apply Kd.R_alloc | apply Kd.R_drewN | apply Kd.R_drew)); exact (Kd.R_mono (Kd.R_mono (Kd.R_far (p := ⟨gb833, 9, none⟩) (Kd.R_far (p := ⟨gb833, 8, none⟩) (Kd.R_far (p := ⟨gb833, 7, none⟩) (Kd.R_far (p := ⟨gb833, 6, none⟩) (Kd.R_far (p := ⟨gb833, 5, none⟩) (Kd.R_far (p := ⟨gb833, 4, none⟩) (Kd.R_far (p := ⟨gb833, 3, none⟩) (Kd.R_far (p := ⟨gb833, 2, none⟩) (Kd.R_far (p := ⟨gb833, 1, none⟩) (Kd.R_far (p := ⟨gb833, 0, none⟩) (Kd.R_far (p := ⟨gb832, 9, none⟩) (Kd.R_far (p := ⟨gb832, 8, none⟩) (Kd.R_far (p := ⟨gb832, 7, none⟩) (Kd.R_far (p := ⟨gb832, 6, none⟩) (Kd.R_far (p := ⟨gb832, 5, none⟩) (Kd.R_far (p := ⟨gb832, 4, none⟩) (Kd.R_far (p := ⟨gb832, 3, none⟩) (Kd.R_far (p := ⟨gb832, 2, none⟩) (Kd.R_far (p := ⟨gb832, 1, none⟩) (Kd.R_far (p := ⟨gb832, 0, none⟩) (Kd.R_types (Kd.R_types HO813.out BK832.out (by decide)) BK833.out (by decide)) (fun _ hk => hk.1.2) (.int .i64 t808)) (fun _ hk => hk.1.2) (.int .i64 t809)) (fun _ hk => hk.1.2) (.int .i64 t810)) (fun _ hk => hk.1.2) (.slice Ao91 t811.length co91)) (fun _ hk => hk.1.2) (.int .i64 t814)) (fun _ hk => hk.1.2) (.string t815)) (fun _ hk => hk.1.2) (.string t816)) (fun _ hk => hk.1.2) (.int .i64 t817)) (fun _ hk => hk.1.2) (.int .i64 t818)) (fun _ hk => hk.1.2) (.int .i64 t819)) (fun _ hk => by first | exact hk.2 | trivial) (.int .i64 t820)) (fun _ hk => by first | exact hk.2 | trivial) (.int .i64 t821)) (fun _ hk => by first | exact hk.2 | trivial) (.int .i64 t822)) (fun _ hk => by first | exact hk.2 | trivial) (.slice Ao99 t823.length co99)) (fun _ hk => by first | exact hk.2 | trivial) (.int .i64 t826)) (fun _ hk => by first | exact hk.2 | trivial) (.string t827)) (fun _ hk => by first | exact hk.2 | trivial) (.string t828)) (fun _ hk => by first | exact hk.2 | trivial) (.int .i64 t829)) (fun _ hk => by first | exact hk.2 | trivial) (.int .i64 t830)) (fun _ hk => by first | exact hk.2 | trivial) (.int .i64 t831)) (fun _ h_ => h_.1)) (fun _ h_ => h_.1))) hb); replace HO825 := Aside0.mk (Kd.R_below (by (with_reducible repeat (first | apply Kd.R_alloc | apply Kd.R_drewN | apply Kd.R_drew)); exact (Kd.R_mono (Kd.R_mono (Kd.R_far (p := ⟨gb833, 9, none⟩) (Kd.R_far (p := ⟨gb833, 8, none⟩) (Kd.R_far (p := ⟨gb833, 7, none⟩) (Kd.R_far (p := ⟨gb833, 6, none⟩) (Kd.R_far (p := ⟨gb833, 5, none⟩) (Kd.R_far (p := ⟨gb833, 4, none⟩) (Kd.R_far (p := ⟨gb833, 3, none⟩) (Kd.R_far (p := ⟨gb833, 2, none⟩) (Kd.R_far (p := ⟨gb833, 1, none⟩) (Kd.R_far (p := ⟨gb833, 0, none⟩) (Kd.R_far (p := ⟨gb832, 9, none⟩) (Kd.R_far (p := ⟨gb832, 8, none⟩) (Kd.R_far (p := ⟨gb832, 7, none⟩) (Kd.R_far (p := ⟨gb832, 6, none⟩) (Kd.R_far (p := ⟨gb832, 5, none⟩) (Kd.R_far (p := ⟨gb832, 4, none⟩) (Kd.R_far (p := ⟨gb832, 3, none⟩) (Kd.R_far (p := ⟨gb832, 2, none⟩) (Kd.R_far (p := ⟨gb832, 1, none⟩) (Kd.R_far (p := ⟨gb832, 0, none⟩) (Kd.R_types (Kd.R_types HO825.out BK832.out (by decide)) BK833.out (by decide)) (fun _ hk => hk.1.2) (.int .i64 t808)) (fun _ hk => hk.1.2) (.int .i64 t809)) (fun _ hk => hk.1.2) (.int .i64 t810)) (fun _ hk => hk.1.2) (.slice Ao91 t811.length co91)) (fun _ hk => hk.1.2) (.int .i64 t814)) (fun _ hk => hk.1.2) (.string t815)) (fun _ hk => hk.1.2) (.string t816)) (fun _ hk => hk.1.2) (.int .i64 t817)) (fun _ hk => hk.1.2) (.int .i64 t818)) (fun _ hk => hk.1.2) (.int .i64 t819)) (fun _ hk => by first | exact hk.2 | trivial) (.int .i64 t820)) (fun _ hk => by first | exact hk.2 | trivial) (.int .i64 t821)) (fun _ hk => by first | exact hk.2 | trivial) (.int .i64 t822)) (fun _ hk => by first | exact hk.2 | trivial) (.slice Ao99 t823.length co99)) (fun _ hk => by first | exact hk.2 | trivial) (.int .i64 t826)) (fun _ hk => by first | exact hk.2 | trivial) (.string t827)) (fun _ hk => by first | exact hk.2 | trivial) (.string t828)) (fun _ hk => by first | exact hk.2 | trivial) (.int .i64 t829)) (fun _ hk => by first | exact hk.2 | trivial) (.int .i64 t830)) (fun _ hk => by first | exact hk.2 | trivial) (.int .i64 t831)) (fun _ h_ => h_.1)) (fun _ h_ => h_.1))) hb); replace BK732 := bb_ BK732 z22_14 hb; replace BK749 := bb_ BK749 z22_12 hb; replace BK766 := bb_ BK766 z22_10 hb; replace BK781 := bb_ BK781 z22_8 hb; replace BK806 := bb_ BK806 z22_7 hb; replace BK807 := bb_ BK807 z22_6 hb; replace BK832 := Aside0.mk (blk_below (g := gb832) (o := .cells #[.int .i64 t808, .int .i64 t809, .int .i64 t810, .slice Ao91 t811.length co91, .int .i64 t814, .string t815, .string t816, .int .i64 t817, .int .i64 t818, .int .i64 t819] 31 (0, 0)) (by (with_reducible repeat (first | apply bpa10 | apply blk_far (hp := NB832_833.out) | refine blk_drewN ?_ _ | refine blk_drew ?_ | refine blk_alloc ?_ _)); exact BK832.out) hb); replace BK833 := Aside0.mk (blk_below (g := gb833) (o := .cells #[.int .i64 t820, .int .i64 t821, .int .i64 t822, .slice Ao99 t823.length co99, .int .i64 t826, .string t827, .string t828, .int .i64 t829, .int .i64 t830, .int .i64 t831] 31 (0, 0)) (by (with_reducible repeat (first | apply bpa10 | apply blk_far (hp := NB833_832.out) | refine blk_drewN ?_ _ | refine blk_drew ?_ | refine blk_alloc ?_ _)); exact BK833.out) hb); replace HB := Aside0.mk (below_step z22_0 hb)))
 replace HO725 := Aside0.mk (Kd.R_drew HO725.out)
 replace HO740 := Aside0.mk (Kd.R_drew HO740.out)
 replace HO757 := Aside0.mk (Kd.R_drew HO757.out)
 replace HO772 := Aside0.mk (Kd.R_drew HO772.out)
 replace HO787 := Aside0.mk (Kd.R_drew HO787.out)
 replace HO799 := Aside0.mk (Kd.R_drew HO799.out)
 replace HO813 := Aside0.mk (Kd.R_drew HO813.out)
 replace HO825 := Aside0.mk (Kd.R_drew HO825.out)
 replace BK732 := Aside0.mk (blk_drew BK732.out)
 replace BK749 := Aside0.mk (blk_drew BK749.out)
 replace BK766 := Aside0.mk (blk_drew BK766.out)
 replace BK781 := Aside0.mk (blk_drew BK781.out)
 replace BK806 := Aside0.mk (blk_drew BK806.out)
 replace BK807 := Aside0.mk (blk_drew BK807.out)
 replace BK832 := Aside0.mk (blk_drew BK832.out)
 replace BK833 := Aside0.mk (blk_drew BK833.out)
 replace HB := Aside0.mk (below_drew1 HB.out)
 by_cases c16 : (t734 == t835) = true
 rotate_left
 ·
  rw [if_neg c16] at H
  have c16b0 : (t734 == t835) = false := by simpa using c16
  (try (have c16b1 : decide (t734 = t835) = false := by simpa using c16))
  (try (have c16b2 : (t734 == t835) = false := by simpa using c16))
  (try (have c16b3 : ¬ (t734 = t835) := by simpa using c16))
  clear c16
  exact absurd H (by simp)
 rw [if_pos c16] at H
 have c16b0 : (t734 == t835) = true := c16
 (try (have c16b1 : decide (t734 = t835) = true := by simpa using c16))
 (try (have c16b2 : (t734 == t835) = true := by simpa using c16))
 clear c16
 replace H := Option.bind_eq_some_iff.mp H
 obtain ⟨t836, A170, H⟩ := H
 (try dsimp only at H)
 have A17 := Aside0.mk A170
 clear A170
 by_cases c18 : (t836 == t734) = true
 rotate_left
 ·
  rw [if_neg c18] at H
  have c18b0 : (t836 == t734) = false := by simpa using c18
  (try (have c18b1 : decide (t836 = t734) = false := by simpa using c18))
  (try (have c18b2 : (t836 == t734) = false := by simpa using c18))
  (try (have c18b3 : ¬ (t836 = t734) := by simpa using c18))
  clear c18
  exact absurd H (by simp)
 rw [if_pos c18] at H
 have c18b0 : (t836 == t734) = true := c18
 (try (have c18b1 : decide (t836 = t734) = true := by simpa using c18))
 (try (have c18b2 : (t836 == t734) = true := by simpa using c18))
 clear c18
 by_cases c19 : t734 = true
 rotate_left
 ·
  replace c19 := Bool.eq_false_iff.mpr c19
  subst c19
  rw [if_neg (show ¬ (false = true) by decide)] at H
  by_cases c185 : (t765 == t780) = true
  rotate_left
  ·
   rw [if_neg c185] at H
   have c185b0 : (t765 == t780) = false := by simpa using c185
   (try (have c185b1 : decide (t765 = t780) = false := by simpa using c185))
   (try (have c185b2 : (t765 == t780) = false := by simpa using c185))
   (try (have c185b3 : ¬ (t765 = t780) := by simpa using c185))
   clear c185
   exact absurd H (by simp)
  rw [if_pos c185] at H
  have c185b0 : (t765 == t780) = true := c185
  (try (have c185b1 : decide (t765 = t780) = true := by simpa using c185))
  (try (have c185b2 : (t765 == t780) = true := by simpa using c185))
  clear c185
  by_cases c186 : t764 = t779
  rotate_left
  ·
   rw [if_neg c186] at H
   have c186b0 : (t764 == t779) = false := beq_eq_false_iff_ne.mpr c186
   have c186b1 : (t764 != t779) = true := bne_iff_ne.mpr c186
   exact absurd H (by simp)
  rw [if_pos c186] at H
  have c186b0 : (t764 == t779) = true := beq_iff_eq.mpr c186
  have c186b1 : (t764 != t779) = false := bne_eq_false_iff_eq.mpr c186
  clear c186
  replace H := Option.bind_eq_some_iff.mp H
  obtain ⟨t849, A1870, H⟩ := H
  (try dsimp only at H)
  have A187 := Aside0.mk A1870
  clear A1870
  by_cases c188 : t849 = true
  rotate_left
  ·
   replace c188 := Bool.eq_false_iff.mpr c188
   subst c188
   rw [if_neg (show ¬ (false = true) by decide)] at H
   exact absurd H (by simp)
  subst c188
  rw [if_pos rfl] at H
  replace H := Option.bind_eq_some_iff.mp H
  obtain ⟨t850, A1890, H⟩ := H
  (try dsimp only at H)
  have A189 := Aside0.mk A1890
  clear A1890
  replace H := Option.bind_eq_some_iff.mp H
  obtain ⟨t851, A1900, H⟩ := H
  (try dsimp only at H)
  have A190 := Aside0.mk A1900
  clear A1900
  by_cases c191 : (t850 == t851) = true
  rotate_left
  ·
   rw [if_neg c191] at H
   have c191b0 : (t850 == t851) = false := by simpa using c191
   (try (have c191b1 : decide (t850 = t851) = false := by simpa using c191))
   (try (have c191b2 : (t850 == t851) = false := by simpa using c191))
   (try (have c191b3 : ¬ (t850 = t851) := by simpa using c191))
   clear c191
   exact absurd H (by simp)
  rw [if_pos c191] at H
  have c191b0 : (t850 == t851) = true := c191
  (try (have c191b1 : decide (t850 = t851) = true := by simpa using c191))
  (try (have c191b2 : (t850 == t851) = true := by simpa using c191))
  clear c191
  replace H := Option.bind_eq_some_iff.mp H
  obtain ⟨t852, A1920, H⟩ := H
  (try dsimp only at H)
  have A192 := Aside0.mk A1920
  clear A1920
  replace H := Option.bind_eq_some_iff.mp H
  obtain ⟨t853, A1930, H⟩ := H
  (try dsimp only at H)
  have A193 := Aside0.mk A1930
  clear A1930
  by_cases c194 : (t852 == t853) = true
  rotate_left
  ·
   rw [if_neg c194] at H
   have c194b0 : (t852 == t853) = false := by simpa using c194
   (try (have c194b1 : decide (t852 = t853) = false := by simpa using c194))
   (try (have c194b2 : (t852 == t853) = false := by simpa using c194))
   (try (have c194b3 : ¬ (t852 = t853) := by simpa using c194))
   clear c194
   exact absurd H (by simp)
  rw [if_pos c194] at H
  have c194b0 : (t852 == t853) = true := c194
  (try (have c194b1 : decide (t852 = t853) = true := by simpa using c194))
  (try (have c194b2 : (t852 == t853) = true := by simpa using c194))
  clear c194
  replace H := Option.bind_eq_some_iff.mp H
  obtain ⟨t854, A1950, H⟩ := H
  (try dsimp only at H)
  have A195 := Aside0.mk A1950
  clear A1950
  by_cases c196 : t854 = true
  rotate_left
  ·
   replace c196 := Bool.eq_false_iff.mpr c196
   subst c196
   rw [if_neg (show ¬ (false = true) by decide)] at H
   replace H := Option.bind_eq_some_iff.mp H
   obtain ⟨t858, A2720, H⟩ := H
   (try dsimp only at H)
   have A272 := Aside0.mk A2720
   clear A2720
   replace H := Option.bind_eq_some_iff.mp H
   obtain ⟨t859, A2730, H⟩ := H
   (try dsimp only at H)
   have A273 := Aside0.mk A2730
   clear A2730
   have HT := Option.some.inj H
   refine start_ (n := 81) (S := fun w' => w'.cell? ⟨gb732, 0, none⟩ = some (.int .i64 t720) ∧ w'.cell? ⟨gb732, 1, none⟩ = some (.int .i64 t721) ∧ w'.cell? ⟨gb732, 2, none⟩ = some (.int .i64 t722) ∧ w'.cell? ⟨gb732, 3, none⟩ = some (.slice Ao43 t723.length co43) ∧ w'.cell? ⟨gb732, 4, none⟩ = some (.int .i64 t726) ∧ w'.cell? ⟨gb732, 5, none⟩ = some (.string t727) ∧ w'.cell? ⟨gb732, 6, none⟩ = some (.string t728) ∧ w'.cell? ⟨gb732, 7, none⟩ = some (.int .i64 t729) ∧ w'.cell? ⟨gb732, 8, none⟩ = some (.int .i64 t730) ∧ w'.cell? ⟨gb732, 9, none⟩ = some (.int .i64 t731) ∧ w'.cell? ⟨gb766, 0, none⟩ = some (.int .i64 t752) ∧ w'.cell? ⟨gb766, 1, none⟩ = some (.int .i64 t753) ∧ w'.cell? ⟨gb766, 2, none⟩ = some (.int .i64 t754) ∧ w'.cell? ⟨gb766, 3, none⟩ = some (.slice Ao56 t755.length co56) ∧ w'.cell? ⟨gb766, 4, none⟩ = some (.int .i64 t758) ∧ w'.cell? ⟨gb766, 5, none⟩ = some (.string t759) ∧ w'.cell? ⟨gb766, 6, none⟩ = some (.string t760) ∧ w'.cell? ⟨gb766, 7, none⟩ = some (.int .i64 t761) ∧ w'.cell? ⟨gb766, 8, none⟩ = some (.int .i64 t762) ∧ w'.cell? ⟨gb766, 9, none⟩ = some (.int .i64 t763) ∧ w'.cell? ⟨gb781, 0, none⟩ = some (.int .i64 t767) ∧ w'.cell? ⟨gb781, 1, none⟩ = some (.int .i64 t768) ∧ w'.cell? ⟨gb781, 2, none⟩ = some (.int .i64 t769) ∧ w'.cell? ⟨gb781, 3, none⟩ = some (.slice Ao63 t770.length co63) ∧ w'.cell? ⟨gb781, 4, none⟩ = some (.int .i64 t773) ∧ w'.cell? ⟨gb781, 5, none⟩ = some (.string t774) ∧ w'.cell? ⟨gb781, 6, none⟩ = some (.string t775) ∧ w'.cell? ⟨gb781, 7, none⟩ = some (.int .i64 t776) ∧ w'.cell? ⟨gb781, 8, none⟩ = some (.int .i64 t777) ∧ w'.cell? ⟨gb781, 9, none⟩ = some (.int .i64 t778) ∧ w'.cell? ⟨gb806, 0, none⟩ = some (.int .i64 t782) ∧ w'.cell? ⟨gb806, 1, none⟩ = some (.int .i64 t783) ∧ w'.cell? ⟨gb806, 2, none⟩ = some (.int .i64 t784) ∧ w'.cell? ⟨gb806, 3, none⟩ = some (.slice Ao73 t785.length co73) ∧ w'.cell? ⟨gb806, 4, none⟩ = some (.int .i64 t788) ∧ w'.cell? ⟨gb806, 5, none⟩ = some (.string t789) ∧ w'.cell? ⟨gb806, 6, none⟩ = some (.string t790) ∧ w'.cell? ⟨gb806, 7, none⟩ = some (.int .i64 t791) ∧ w'.cell? ⟨gb806, 8, none⟩ = some (.int .i64 t792) ∧ w'.cell? ⟨gb806, 9, none⟩ = some (.int .i64 t793) ∧ w'.cell? ⟨gb807, 0, none⟩ = some (.int .i64 t794) ∧ w'.cell? ⟨gb807, 1, none⟩ = some (.int .i64 t795) ∧ w'.cell? ⟨gb807, 2, none⟩ = some (.int .i64 t796) ∧ w'.cell? ⟨gb807, 3, none⟩ = some (.slice Ao79 t797.length co79) ∧ w'.cell? ⟨gb807, 4, none⟩ = some (.int .i64 t800) ∧ w'.cell? ⟨gb807, 5, none⟩ = some (.string t801) ∧ w'.cell? ⟨gb807, 6, none⟩ = some (.string t802) ∧ w'.cell? ⟨gb807, 7, none⟩ = some (.int .i64 t803) ∧ w'.cell? ⟨gb807, 8, none⟩ = some (.int .i64 t804) ∧ w'.cell? ⟨gb807, 9, none⟩ = some (.int .i64 t805) ∧ w'.cell? ⟨gb832, 0, none⟩ = some (.int .i64 t808) ∧ w'.cell? ⟨gb832, 1, none⟩ = some (.int .i64 t809) ∧ w'.cell? ⟨gb832, 2, none⟩ = some (.int .i64 t810) ∧ w'.cell? ⟨gb832, 3, none⟩ = some (.slice Ao91 t811.length co91) ∧ w'.cell? ⟨gb832, 4, none⟩ = some (.int .i64 t814) ∧ w'.cell? ⟨gb832, 5, none⟩ = some (.string t815) ∧ w'.cell? ⟨gb832, 6, none⟩ = some (.string t816) ∧ w'.cell? ⟨gb832, 7, none⟩ = some (.int .i64 t817) ∧ w'.cell? ⟨gb832, 8, none⟩ = some (.int .i64 t818) ∧ w'.cell? ⟨gb832, 9, none⟩ = some (.int .i64 t819) ∧ w'.cell? ⟨gb833, 0, none⟩ = some (.int .i64 t820) ∧ w'.cell? ⟨gb833, 1, none⟩ = some (.int .i64 t821) ∧ w'.cell? ⟨gb833, 2, none⟩ = some (.int .i64 t822) ∧ w'.cell? ⟨gb833, 3, none⟩ = some (.slice Ao99 t823.length co99) ∧ w'.cell? ⟨gb833, 4, none⟩ = some (.int .i64 t826) ∧ w'.cell? ⟨gb833, 5, none⟩ = some (.string t827) ∧ w'.cell? ⟨gb833, 6, none⟩ = some (.string t828) ∧ w'.cell? ⟨gb833, 7, none⟩ = some (.int .i64 t829) ∧ w'.cell? ⟨gb833, 8, none⟩ = some (.int .i64 t830) ∧ w'.cell? ⟨gb833, 9, none⟩ = some (.int .i64 t831)) (ds := []) mk22_0 z22_64 rfl rfl (jn10 BK732 (jn10 BK766 (jn10 BK781 (jn10 BK806 (jn10 BK807 (jn10 BK832 (ln10 BK833))))))) (fun hHeld => ?_); refine with_tabW laws_FnActs.tab12 laws_FnActs.bits12 (fun HT_ HW_ => ?_)
   generalize w100.drew = w335 at HO725 HO740 HO757 HO772 HO787 HO799 HO813 HO825 BK732 BK749 BK766 BK781 BK806 BK807 BK832 BK833 HB hHeld ⊢
   refine p_ (i := 0) (N := some 70) mk22_1 ?_
   refine t_ (i := 1) (N := some 71) mk22_2 hHeld ?_
   refine o_ (i := 2) (N := some 72) mk22_3 (fun K hK => ?_)
   refine goes_ Try.func16 z22_64 rfl #[.agg #[.int .i64 t720, .int .i64 t721, .int .i64 t722, .slice Ao43 t723.length co43, .int .i64 t726, .string t727, .string t728, .int .i64 t729, .int .i64 t730, .int .i64 t731]] (by rfl) rfl rfl z22_18 ?_
   with_reducible refine (spec_ActOk.calls k t720 t721 t722 _ _ t723 t726 t727 t728 t729 t730 t731 t835 _ ?side1 ?side2 A15.out).mono ?_
   (case side1 => exact z22_101)
   (case side2 => exact (Kd.R_reads' HO725.out).2.1)
   rintro e w336 ⟨rfl, hb⟩
   refine ⟨_, rfl, ?_⟩
   replace HO725 := Aside0.mk (Kd.R_below z22_16 hb)
   replace HO740 := Aside0.mk (Kd.R_below z22_19 hb)
   replace HO757 := Aside0.mk (Kd.R_below z22_22 hb)
   replace HO772 := Aside0.mk (Kd.R_below z22_23 hb)
   replace HO787 := Aside0.mk (Kd.R_below z22_27 hb)
   replace HO799 := Aside0.mk (Kd.R_below z22_26 hb)
   replace HO813 := Aside0.mk (Kd.R_below z22_35 hb)
   replace HO825 := Aside0.mk (Kd.R_below z22_34 hb)
   replace BK732 := bb_ BK732 z22_1 hb
   replace BK749 := bb_ BK749 z22_2 hb
   replace BK766 := bb_ BK766 z22_3 hb
   replace BK781 := bb_ BK781 z22_4 hb
   replace BK806 := bb_ BK806 z22_17 hb
   replace BK807 := bb_ BK807 z22_21 hb
   replace BK832 := bb_ BK832 z22_24 hb
   replace BK833 := bb_ BK833 z22_61 hb
   replace HB := Aside0.mk (below_step z22_0 hb)
   (try clear hb)
   (try clear hb2)
   (try clear hk)
   (try clear hi)
   refine hK.out _ _ (jn10 BK732 (jn10 BK766 (jn10 BK781 (jn10 BK806 (jn10 BK807 (jn10 BK832 (ln10 BK833))))))) (fun hHeld => ?_)
   clear hK K
   refine n_ (N := some 72) ?_
   refine p_ (i := 3) (N := some 73) mk22_4 ?_
   refine p_ (i := 4) (N := some 74) mk22_5 ?_
   refine p_ (i := 7) (N := some 77) mk22_6 ?_
   refine t_ (i := 5) (N := some 75) mk22_7 hHeld ?_
   refine o_ (i := 6) (N := some 76) mk22_8 (fun K hK => ?_)
   refine goes_ Try.func17 z22_64 rfl #[.agg #[.int .i64 t720, .int .i64 t721, .int .i64 t722, .slice Ao43 t723.length co43, .int .i64 t726, .string t727, .string t728, .int .i64 t729, .int .i64 t730, .int .i64 t731]] (by rfl) rfl rfl z22_18 ?_
   with_reducible refine (impl_ActOk.calls k t720 t721 t722 _ _ t723 t726 t727 t728 t729 t730 t731 t836 _ ?side1 ?side2 A17.out).mono ?_
   (case side1 => exact z22_101)
   (case side2 => exact (Kd.R_reads' HO725.out).2.1)
   rintro e w337 ⟨rfl, hb⟩
   refine ⟨_, rfl, ?_⟩
   replace HO725 := Aside0.mk (Kd.R_below z22_16 hb)
   replace HO740 := Aside0.mk (Kd.R_below z22_19 hb)
   replace HO757 := Aside0.mk (Kd.R_below z22_22 hb)
   replace HO772 := Aside0.mk (Kd.R_below z22_23 hb)
   replace HO787 := Aside0.mk (Kd.R_below z22_27 hb)
   replace HO799 := Aside0.mk (Kd.R_below z22_26 hb)
   replace HO813 := Aside0.mk (Kd.R_below z22_35 hb)
   replace HO825 := Aside0.mk (Kd.R_below z22_34 hb)
   replace BK732 := bb_ BK732 z22_1 hb
   replace BK749 := bb_ BK749 z22_2 hb
   replace BK766 := bb_ BK766 z22_3 hb
   replace BK781 := bb_ BK781 z22_4 hb
   replace BK806 := bb_ BK806 z22_17 hb
   replace BK807 := bb_ BK807 z22_21 hb
   replace BK832 := bb_ BK832 z22_24 hb
   replace BK833 := bb_ BK833 z22_61 hb
   replace HB := Aside0.mk (below_step z22_0 hb)
   (try clear hb)
   (try clear hb2)
   (try clear hk)
   (try clear hi)
   refine hK.out _ _ (jn10 BK732 (jn10 BK766 (jn10 BK781 (jn10 BK806 (jn10 BK807 (jn10 BK832 (ln10 BK833))))))) (fun hHeld => ?_)
   clear hK K
   refine n_ (N := some 76) ?_
   refine p_ (i := 8) (N := some 78) mk22_9 ?_
   refine p_ (i := 9) (N := some 79) mk22_10 ?_
   refine p_ (i := 10) (N := some 80) mk22_11 ?_
   refine p_ (i := 11) (N := some 81) mk22_12 ?_
   refine p_ (i := 12) (N := some 82) mk22_13 ?_
   refine p_ (i := 13) (N := some 83) mk22_14 ?_
   refine u_ (i := 14) (N := some 84) mk22_15 ?_
   refine u_ (i := 15) (N := some 85) mk22_16 ?_
   refine u_ (i := 16) (N := some 86) mk22_17 ?_
   refine u_ (i := 17) (N := some 87) mk22_18 ?_
   refine u_ (i := 18) (N := some 88) mk22_19 ?_
   refine u_ (i := 19) (N := some 89) mk22_20 ?_
   refine u_ (i := 20) (N := some 90) mk22_21 ?_
   refine u_ (i := 21) (N := some 91) mk22_22 ?_
   refine u_ (i := 22) (N := some 92) mk22_23 ?_
   refine u_ (i := 23) (N := some 93) mk22_24 ?_
   refine u_ (i := 24) (N := some 94) mk22_25 ?_
   refine u_ (i := 25) (N := some 95) mk22_26 ?_
   refine u_ (i := 26) (N := some 96) mk22_27 ?_
   refine p_ (i := 27) (N := some 97) mk22_28 ?_
   refine p_ (i := 28) (N := some 98) mk22_29 ?_
   refine p_ (i := 29) (N := some 99) mk22_30 ?_
   refine p_ (i := 30) (N := some 100) mk22_31 ?_
   refine p_ (i := 31) (N := some 101) mk22_32 ?_
   refine p_ (i := 32) (N := some 102) mk22_33 ?_
   refine p_ (i := 33) (N := some 103) mk22_34 ?_
   refine p_ (i := 34) (N := some 104) mk22_35 ?_
   refine p_ (i := 35) (N := some 105) mk22_36 ?_
   refine p_ (i := 36) (N := some 106) mk22_37 ?_
   refine p_ (i := 37) (N := some 107) mk22_38 ?_
   refine p_ (i := 38) (N := some 108) mk22_39 ?_
   refine p_ (i := 39) (N := some 109) mk22_40 ?_
   refine t_ (i := 40) (N := some 110) mk22_41 hHeld ?_
   refine t_ (i := 41) (N := some 111) mk22_42 hHeld ?_
   refine o_ (i := 42) (N := some 112) mk22_43 (fun K hK => ?_)
   refine goes_ Try.func18 z22_64 rfl #[.agg #[.int .i64 t752, .int .i64 t753, .int .i64 t754, .slice Ao56 t755.length co56, .int .i64 t758, .string t759, .string t760, .int .i64 t761, .int .i64 t762, .int .i64 t763], .agg #[.int .i64 t767, .int .i64 t768, .int .i64 t769, .slice Ao63 t770.length co63, .int .i64 t773, .string t774, .string t775, .int .i64 t776, .int .i64 t777, .int .i64 t778]] (by rfl) rfl rfl z22_18 ?_
   with_reducible refine (spec_SameAct.calls k t752 t753 t754 _ _ t755 t758 t759 t760 t761 t762 t763 t767 t768 t769 _ _ t770 t773 t774 t775 t776 t777 t778 true _ ?side1 ?side2 ?side3 ?side4 A187.out).mono ?_
   (case side1 => exact z22_103)
   (case side2 => exact (Kd.R_reads' HO757.out).2.1)
   (case side3 => exact z22_104)
   (case side4 => exact (Kd.R_reads' HO772.out).2.1)
   rintro e w338 ⟨rfl, hb⟩
   refine ⟨_, rfl, ?_⟩
   replace HO725 := Aside0.mk (Kd.R_below z22_16 hb)
   replace HO740 := Aside0.mk (Kd.R_below z22_19 hb)
   replace HO757 := Aside0.mk (Kd.R_below z22_22 hb)
   replace HO772 := Aside0.mk (Kd.R_below z22_23 hb)
   replace HO787 := Aside0.mk (Kd.R_below z22_27 hb)
   replace HO799 := Aside0.mk (Kd.R_below z22_26 hb)
   replace HO813 := Aside0.mk (Kd.R_below z22_35 hb)
   replace HO825 := Aside0.mk (Kd.R_below z22_34 hb)
   replace BK732 := bb_ BK732 z22_1 hb
   replace BK749 := bb_ BK749 z22_2 hb
   replace BK766 := bb_ BK766 z22_3 hb
   replace BK781 := bb_ BK781 z22_4 hb
   replace BK806 := bb_ BK806 z22_17 hb
   replace BK807 := bb_ BK807 z22_21 hb
   replace BK832 := bb_ BK832 z22_24 hb
   replace BK833 := bb_ BK833 z22_61 hb
   replace HB := Aside0.mk (below_step z22_0 hb)
   (try clear hb)
   (try clear hb2)
   (try clear hk)
   (try clear hi)
   refine hK.out _ _ (jn10 BK732 (jn10 BK766 (jn10 BK781 (jn10 BK806 (jn10 BK807 (jn10 BK832 (ln10 BK833))))))) (fun hHeld => ?_)
   clear hK K
   refine n_ (N := some 112) ?_
   refine p_ (i := 43) (N := some 113) mk22_44 ?_
   refine p_ (i := 44) (N := some 114) mk22_45 ?_
   refine t_ (i := 45) (N := some 115) mk22_46 hHeld ?_
   refine t_ (i := 46) (N := some 116) mk22_47 hHeld ?_
   refine t_ (i := 48) (N := some 118) mk22_48 hHeld ?_
   refine t_ (i := 49) (N := some 119) mk22_49 hHeld ?_
   refine o_ (i := 47) (N := some 117) mk22_50 (fun K hK => ?_)
   refine goes_ Try.func19 z22_64 rfl #[.agg #[.int .i64 t782, .int .i64 t783, .int .i64 t784, .slice Ao73 t785.length co73, .int .i64 t788, .string t789, .string t790, .int .i64 t791, .int .i64 t792, .int .i64 t793], .agg #[.int .i64 t794, .int .i64 t795, .int .i64 t796, .slice Ao79 t797.length co79, .int .i64 t800, .string t801, .string t802, .int .i64 t803, .int .i64 t804, .int .i64 t805]] (by rfl) rfl rfl z22_18 ?_
   with_reducible refine (impl_SameAct.calls k t782 t783 t784 _ _ t785 t788 t789 t790 t791 t792 t793 t794 t795 t796 _ _ t797 t800 t801 t802 t803 t804 t805 t850 _ ?side1 ?side2 ?side3 ?side4 A189.out).mono ?_
   (case side1 => exact z22_105)
   (case side2 => exact (Kd.R_reads' HO787.out).2.1)
   (case side3 => exact z22_106)
   (case side4 => exact (Kd.R_reads' HO799.out).2.1)
   rintro e w339 ⟨rfl, hb⟩
   refine ⟨_, rfl, ?_⟩
   replace HO725 := Aside0.mk (Kd.R_below z22_16 hb)
   replace HO740 := Aside0.mk (Kd.R_below z22_19 hb)
   replace HO757 := Aside0.mk (Kd.R_below z22_22 hb)
   replace HO772 := Aside0.mk (Kd.R_below z22_23 hb)
   replace HO787 := Aside0.mk (Kd.R_below z22_27 hb)
   replace HO799 := Aside0.mk (Kd.R_below z22_26 hb)
   replace HO813 := Aside0.mk (Kd.R_below z22_35 hb)
   replace HO825 := Aside0.mk (Kd.R_below z22_34 hb)
   replace BK732 := bb_ BK732 z22_1 hb
   replace BK749 := bb_ BK749 z22_2 hb
   replace BK766 := bb_ BK766 z22_3 hb
   replace BK781 := bb_ BK781 z22_4 hb
   replace BK806 := bb_ BK806 z22_17 hb
   replace BK807 := bb_ BK807 z22_21 hb
   replace BK832 := bb_ BK832 z22_24 hb
   replace BK833 := bb_ BK833 z22_61 hb
   replace HB := Aside0.mk (below_step z22_0 hb)
   (try clear hb)
   (try clear hb2)
   (try clear hk)
   (try clear hi)
   refine hK.out _ _ (jn10 BK732 (jn10 BK766 (jn10 BK781 (jn10 BK806 (jn10 BK807 (jn10 BK832 (ln10 BK833))))))) (fun hHeld => ?_)
   clear hK K
   refine n_ (N := some 117) ?_
   refine o_ (i := 50) (N := some 120) mk22_51 (fun K hK => ?_)
   refine goes_ Try.func18 z22_64 rfl #[.agg #[.int .i64 t782, .int .i64 t783, .int .i64 t784, .slice Ao73 t785.length co73, .int .i64 t788, .string t789, .string t790, .int .i64 t791, .int .i64 t792, .int .i64 t793], .agg #[.int .i64 t794, .int .i64 t795, .int .i64 t796, .slice Ao79 t797.length co79, .int .i64 t800, .string t801, .string t802, .int .i64 t803, .int .i64 t804, .int .i64 t805]] (by rfl) rfl rfl z22_18 ?_
   with_reducible refine (spec_SameAct.calls k t782 t783 t784 _ _ t785 t788 t789 t790 t791 t792 t793 t794 t795 t796 _ _ t797 t800 t801 t802 t803 t804 t805 t851 _ ?side1 ?side2 ?side3 ?side4 A190.out).mono ?_
   (case side1 => exact z22_105)
   (case side2 => exact (Kd.R_reads' HO787.out).2.1)
   (case side3 => exact z22_106)
   (case side4 => exact (Kd.R_reads' HO799.out).2.1)
   rintro e w340 ⟨rfl, hb⟩
   refine ⟨_, rfl, ?_⟩
   replace HO725 := Aside0.mk (Kd.R_below z22_16 hb)
   replace HO740 := Aside0.mk (Kd.R_below z22_19 hb)
   replace HO757 := Aside0.mk (Kd.R_below z22_22 hb)
   replace HO772 := Aside0.mk (Kd.R_below z22_23 hb)
   replace HO787 := Aside0.mk (Kd.R_below z22_27 hb)
   replace HO799 := Aside0.mk (Kd.R_below z22_26 hb)
   replace HO813 := Aside0.mk (Kd.R_below z22_35 hb)
   replace HO825 := Aside0.mk (Kd.R_below z22_34 hb)
   replace BK732 := bb_ BK732 z22_1 hb
   replace BK749 := bb_ BK749 z22_2 hb
   replace BK766 := bb_ BK766 z22_3 hb
   replace BK781 := bb_ BK781 z22_4 hb
   replace BK806 := bb_ BK806 z22_17 hb
   replace BK807 := bb_ BK807 z22_21 hb
   replace BK832 := bb_ BK832 z22_24 hb
   replace BK833 := bb_ BK833 z22_61 hb
   replace HB := Aside0.mk (below_step z22_0 hb)
   (try clear hb)
   (try clear hb2)
   (try clear hk)
   (try clear hi)
   refine hK.out _ _ (jn10 BK732 (jn10 BK766 (jn10 BK781 (jn10 BK806 (jn10 BK807 (jn10 BK832 (ln10 BK833))))))) (fun hHeld => ?_)
   clear hK K
   refine n_ (N := some 120) ?_
   refine p_ (i := 51) (N := some 121) mk22_52 ?_
   refine p_ (i := 52) (N := some 122) mk22_53 ?_
   refine p_ (i := 53) (N := some 123) mk22_54 ?_
   refine t_ (i := 54) (N := some 124) mk22_55 hHeld ?_
   refine t_ (i := 55) (N := some 125) mk22_56 hHeld ?_
   refine t_ (i := 57) (N := some 127) mk22_57 hHeld ?_
   refine t_ (i := 58) (N := some 128) mk22_58 hHeld ?_
   refine o_ (i := 56) (N := some 126) mk22_59 (fun K hK => ?_)
   refine goes_ Try.func20 z22_64 rfl #[.agg #[.int .i64 t808, .int .i64 t809, .int .i64 t810, .slice Ao91 t811.length co91, .int .i64 t814, .string t815, .string t816, .int .i64 t817, .int .i64 t818, .int .i64 t819], .agg #[.int .i64 t820, .int .i64 t821, .int .i64 t822, .slice Ao99 t823.length co99, .int .i64 t826, .string t827, .string t828, .int .i64 t829, .int .i64 t830, .int .i64 t831]] (by rfl) rfl rfl z22_18 ?_
   with_reducible refine (impl_Later.calls t808 t809 t810 _ _ t811 t814 t815 t816 t817 t818 t819 t820 t821 t822 _ _ t823 t826 t827 t828 t829 t830 t831 t852 _ ?side1 ?side2 ?side3 ?side4 A192.out).mono ?_
   (case side1 => exact z22_107)
   (case side2 => exact (Kd.R_reads' HO813.out).2.1)
   (case side3 => exact z22_108)
   (case side4 => exact (Kd.R_reads' HO825.out).2.1)
   rintro e w341 ⟨rfl, hb⟩
   refine ⟨_, rfl, ?_⟩
   replace HO725 := Aside0.mk (Kd.R_below z22_16 hb)
   replace HO740 := Aside0.mk (Kd.R_below z22_19 hb)
   replace HO757 := Aside0.mk (Kd.R_below z22_22 hb)
   replace HO772 := Aside0.mk (Kd.R_below z22_23 hb)
   replace HO787 := Aside0.mk (Kd.R_below z22_27 hb)
   replace HO799 := Aside0.mk (Kd.R_below z22_26 hb)
   replace HO813 := Aside0.mk (Kd.R_below z22_35 hb)
   replace HO825 := Aside0.mk (Kd.R_below z22_34 hb)
   replace BK732 := bb_ BK732 z22_1 hb
   replace BK749 := bb_ BK749 z22_2 hb
   replace BK766 := bb_ BK766 z22_3 hb
   replace BK781 := bb_ BK781 z22_4 hb
   replace BK806 := bb_ BK806 z22_17 hb
   replace BK807 := bb_ BK807 z22_21 hb
   replace BK832 := bb_ BK832 z22_24 hb
   replace BK833 := bb_ BK833 z22_61 hb
   replace HB := Aside0.mk (below_step z22_0 hb)
   (try clear hb)
   (try clear hb2)
   (try clear hk)
   (try clear hi)
   refine hK.out _ _ (jn10 BK732 (jn10 BK766 (jn10 BK781 (jn10 BK806 (jn10 BK807 (jn10 BK832 (ln10 BK833))))))) (fun hHeld => ?_)
   clear hK K
   refine n_ (N := some 126) ?_
   refine o_ (i := 59) (N := some 129) mk22_60 (fun K hK => ?_)
   refine goes_ Try.func21 z22_64 rfl #[.agg #[.int .i64 t808, .int .i64 t809, .int .i64 t810, .slice Ao91 t811.length co91, .int .i64 t814, .string t815, .string t816, .int .i64 t817, .int .i64 t818, .int .i64 t819], .agg #[.int .i64 t820, .int .i64 t821, .int .i64 t822, .slice Ao99 t823.length co99, .int .i64 t826, .string t827, .string t828, .int .i64 t829, .int .i64 t830, .int .i64 t831]] (by rfl) rfl rfl z22_18 ?_
   with_reducible refine (spec_Later.calls t808 t809 t810 _ _ t811 t814 t815 t816 t817 t818 t819 t820 t821 t822 _ _ t823 t826 t827 t828 t829 t830 t831 t853 _ ?side1 ?side2 ?side3 ?side4 A193.out).mono ?_
   (case side1 => exact z22_107)
   (case side2 => exact (Kd.R_reads' HO813.out).2.1)
   (case side3 => exact z22_108)
   (case side4 => exact (Kd.R_reads' HO825.out).2.1)
   rintro e w342 ⟨rfl, hb⟩
   refine ⟨_, rfl, ?_⟩
   replace HO725 := Aside0.mk (Kd.R_below z22_16 hb)
   replace HO740 := Aside0.mk (Kd.R_below z22_19 hb)
   replace HO757 := Aside0.mk (Kd.R_below z22_22 hb)
   replace HO772 := Aside0.mk (Kd.R_below z22_23 hb)
   replace HO787 := Aside0.mk (Kd.R_below z22_27 hb)
   replace HO799 := Aside0.mk (Kd.R_below z22_26 hb)
   replace HO813 := Aside0.mk (Kd.R_below z22_35 hb)
   replace HO825 := Aside0.mk (Kd.R_below z22_34 hb)
   replace BK732 := bb_ BK732 z22_1 hb
   replace BK749 := bb_ BK749 z22_2 hb
   replace BK766 := bb_ BK766 z22_3 hb
   replace BK781 := bb_ BK781 z22_4 hb
   replace BK806 := bb_ BK806 z22_17 hb
   replace BK807 := bb_ BK807 z22_21 hb
   replace BK832 := bb_ BK832 z22_24 hb
   replace BK833 := bb_ BK833 z22_61 hb
   replace HB := Aside0.mk (below_step z22_0 hb)
   (try clear hb)
   (try clear hb2)
   (try clear hk)
   (try clear hi)
   refine hK.out _ _ (jn10 BK732 (jn10 BK766 (jn10 BK781 (jn10 BK806 (jn10 BK807 (jn10 BK832 (ln10 BK833))))))) (fun hHeld => ?_)
   clear hK K
   refine n_ (N := some 129) ?_
   refine p_ (i := 60) (N := some 130) mk22_61 ?_
   refine p_ (i := 61) (N := some 131) mk22_62 ?_
   refine p_ (i := 62) (N := some 132) mk22_63 ?_
   refine t_ (i := 63) (N := some 133) mk22_64 hHeld ?_
   refine t_ (i := 64) (N := some 134) mk22_65 hHeld ?_
   refine o_ (i := 65) (N := some 135) mk22_66 (fun K hK => ?_)
   refine goes_ Try.func20 z22_64 rfl #[.agg #[.int .i64 t808, .int .i64 t809, .int .i64 t810, .slice Ao91 t811.length co91, .int .i64 t814, .string t815, .string t816, .int .i64 t817, .int .i64 t818, .int .i64 t819], .agg #[.int .i64 t820, .int .i64 t821, .int .i64 t822, .slice Ao99 t823.length co99, .int .i64 t826, .string t827, .string t828, .int .i64 t829, .int .i64 t830, .int .i64 t831]] (by rfl) rfl rfl z22_18 ?_
   with_reducible refine (impl_Later.calls t808 t809 t810 _ _ t811 t814 t815 t816 t817 t818 t819 t820 t821 t822 _ _ t823 t826 t827 t828 t829 t830 t831 false _ ?side1 ?side2 ?side3 ?side4 A195.out).mono ?_
   (case side1 => exact z22_107)
   (case side2 => exact (Kd.R_reads' HO813.out).2.1)
   (case side3 => exact z22_108)
   (case side4 => exact (Kd.R_reads' HO825.out).2.1)
   rintro e w343 ⟨rfl, hb⟩
   refine ⟨_, rfl, ?_⟩
   replace HO725 := Aside0.mk (Kd.R_below z22_16 hb)
   replace HO740 := Aside0.mk (Kd.R_below z22_19 hb)
   replace HO757 := Aside0.mk (Kd.R_below z22_22 hb)
   replace HO772 := Aside0.mk (Kd.R_below z22_23 hb)
   replace HO787 := Aside0.mk (Kd.R_below z22_27 hb)
   replace HO799 := Aside0.mk (Kd.R_below z22_26 hb)
   replace HO813 := Aside0.mk (Kd.R_below z22_35 hb)
   replace HO825 := Aside0.mk (Kd.R_below z22_34 hb)
   replace BK732 := bb_ BK732 z22_1 hb
   replace BK749 := bb_ BK749 z22_2 hb
   replace BK766 := bb_ BK766 z22_3 hb
   replace BK781 := bb_ BK781 z22_4 hb
   replace BK806 := bb_ BK806 z22_17 hb
   replace BK807 := bb_ BK807 z22_21 hb
   replace BK832 := bb_ BK832 z22_24 hb
   replace BK833 := bb_ BK833 z22_61 hb
   replace HB := Aside0.mk (below_step z22_0 hb)
   (try clear hb)
   (try clear hb2)
   (try clear hk)
   (try clear hi)
   refine hK.out _ _ (jn10 BK732 (jn10 BK766 (jn10 BK781 (jn10 BK806 (jn10 BK807 (jn10 BK832 (ln10 BK833))))))) (fun hHeld => ?_)
   clear hK K
   refine n_ (N := some 135) ?_
   refine p_ (i := 66) (N := some 136) mk22_67 ?_
   refine u_ (i := 67) (N := some 137) mk22_68 ?_
   refine u_ (i := 68) (N := some 138) mk22_69 ?_
   refine u_ (i := 69) (N := some 139) mk22_70 ?_
   refine p_ (i := 70) (N := some 140) mk22_71 ?_
   refine p_ (i := 71) (N := some 141) mk22_72 ?_
   refine p_ (i := 72) (N := some 142) mk22_73 ?_
   refine p_ (i := 73) (N := some 143) mk22_74 ?_
   refine p_ (i := 74) (N := some 144) mk22_75 ?_
   refine p_ (i := 76) (N := some 146) mk22_76 ?_
   refine o_ (i := 75) (N := some 145) mk22_77 (fun K hK => ?_)
   refine goes_ Try.func22 z22_64 rfl #[.string t834] (by rfl) rfl rfl z22_18 ?_
   with_reducible refine (impl_NameOk.calls k t834 t858 _ A272.out).mono ?_
   rintro e w' ⟨rfl, ⟨nd, rfl⟩⟩
   refine ⟨_, rfl, ?_⟩
   refine hK.out _ _ (jn10 BK732 (jn10 BK766 (jn10 BK781 (jn10 BK806 (jn10 BK807 (jn10 BK832 (ln10 BK833))))))) (fun hHeld => ?_)
   clear hK K
   refine n_ (N := some 145) ?_
   refine o_ (i := 77) (N := some 147) mk22_78 (fun K hK => ?_)
   refine goes_ Try.func23 z22_64 rfl #[.string t834] (by rfl) rfl rfl z22_18 ?_
   with_reducible refine (spec_NameOk.calls k t834 t859 _ A273.out).mono ?_
   rintro e w' ⟨rfl, ⟨nd, rfl⟩⟩
   refine ⟨_, rfl, ?_⟩
   refine hK.out _ _ (jn10 BK732 (jn10 BK766 (jn10 BK781 (jn10 BK806 (jn10 BK807 (jn10 BK832 (ln10 BK833))))))) (fun hHeld => ?_)
   clear hK K
   refine n_ (N := some 147) ?_
   refine p_ (i := 78) (N := some 148) mk22_79 ?_
   refine p_ (i := 79) (N := some 149) mk22_80 ?_
   refine p_ (i := 80) (N := some 2) mk22_81 ?_
   refine done_ (done_of HT_.out z22_64) ?_
   try go_wp2
   go_ret
   exact ⟨z22_99, z22_0⟩
  subst c196
  rw [if_pos rfl] at H
  replace H := Option.bind_eq_some_iff.mp H
  obtain ⟨t855, A1970, H⟩ := H
  (try dsimp only at H)
  have A197 := Aside0.mk A1970
  clear A1970
  by_cases c198 : t855 = true
  ·
   subst c198
   rw [if_pos rfl] at H
   exact absurd H (by simp)
  replace c198 := Bool.eq_false_iff.mpr c198
  subst c198
  rw [if_neg (show ¬ (false = true) by decide)] at H
  replace H := Option.bind_eq_some_iff.mp H
  obtain ⟨t856, A1990, H⟩ := H
  (try dsimp only at H)
  have A199 := Aside0.mk A1990
  clear A1990
  replace H := Option.bind_eq_some_iff.mp H
  obtain ⟨t857, A2000, H⟩ := H
  (try dsimp only at H)
  have A200 := Aside0.mk A2000
  clear A2000
  have HT := Option.some.inj H
  refine start_ (n := 81) (S := fun w' => w'.cell? ⟨gb732, 0, none⟩ = some (.int .i64 t720) ∧ w'.cell? ⟨gb732, 1, none⟩ = some (.int .i64 t721) ∧ w'.cell? ⟨gb732, 2, none⟩ = some (.int .i64 t722) ∧ w'.cell? ⟨gb732, 3, none⟩ = some (.slice Ao43 t723.length co43) ∧ w'.cell? ⟨gb732, 4, none⟩ = some (.int .i64 t726) ∧ w'.cell? ⟨gb732, 5, none⟩ = some (.string t727) ∧ w'.cell? ⟨gb732, 6, none⟩ = some (.string t728) ∧ w'.cell? ⟨gb732, 7, none⟩ = some (.int .i64 t729) ∧ w'.cell? ⟨gb732, 8, none⟩ = some (.int .i64 t730) ∧ w'.cell? ⟨gb732, 9, none⟩ = some (.int .i64 t731) ∧ w'.cell? ⟨gb766, 0, none⟩ = some (.int .i64 t752) ∧ w'.cell? ⟨gb766, 1, none⟩ = some (.int .i64 t753) ∧ w'.cell? ⟨gb766, 2, none⟩ = some (.int .i64 t754) ∧ w'.cell? ⟨gb766, 3, none⟩ = some (.slice Ao56 t755.length co56) ∧ w'.cell? ⟨gb766, 4, none⟩ = some (.int .i64 t758) ∧ w'.cell? ⟨gb766, 5, none⟩ = some (.string t759) ∧ w'.cell? ⟨gb766, 6, none⟩ = some (.string t760) ∧ w'.cell? ⟨gb766, 7, none⟩ = some (.int .i64 t761) ∧ w'.cell? ⟨gb766, 8, none⟩ = some (.int .i64 t762) ∧ w'.cell? ⟨gb766, 9, none⟩ = some (.int .i64 t763) ∧ w'.cell? ⟨gb781, 0, none⟩ = some (.int .i64 t767) ∧ w'.cell? ⟨gb781, 1, none⟩ = some (.int .i64 t768) ∧ w'.cell? ⟨gb781, 2, none⟩ = some (.int .i64 t769) ∧ w'.cell? ⟨gb781, 3, none⟩ = some (.slice Ao63 t770.length co63) ∧ w'.cell? ⟨gb781, 4, none⟩ = some (.int .i64 t773) ∧ w'.cell? ⟨gb781, 5, none⟩ = some (.string t774) ∧ w'.cell? ⟨gb781, 6, none⟩ = some (.string t775) ∧ w'.cell? ⟨gb781, 7, none⟩ = some (.int .i64 t776) ∧ w'.cell? ⟨gb781, 8, none⟩ = some (.int .i64 t777) ∧ w'.cell? ⟨gb781, 9, none⟩ = some (.int .i64 t778) ∧ w'.cell? ⟨gb806, 0, none⟩ = some (.int .i64 t782) ∧ w'.cell? ⟨gb806, 1, none⟩ = some (.int .i64 t783) ∧ w'.cell? ⟨gb806, 2, none⟩ = some (.int .i64 t784) ∧ w'.cell? ⟨gb806, 3, none⟩ = some (.slice Ao73 t785.length co73) ∧ w'.cell? ⟨gb806, 4, none⟩ = some (.int .i64 t788) ∧ w'.cell? ⟨gb806, 5, none⟩ = some (.string t789) ∧ w'.cell? ⟨gb806, 6, none⟩ = some (.string t790) ∧ w'.cell? ⟨gb806, 7, none⟩ = some (.int .i64 t791) ∧ w'.cell? ⟨gb806, 8, none⟩ = some (.int .i64 t792) ∧ w'.cell? ⟨gb806, 9, none⟩ = some (.int .i64 t793) ∧ w'.cell? ⟨gb807, 0, none⟩ = some (.int .i64 t794) ∧ w'.cell? ⟨gb807, 1, none⟩ = some (.int .i64 t795) ∧ w'.cell? ⟨gb807, 2, none⟩ = some (.int .i64 t796) ∧ w'.cell? ⟨gb807, 3, none⟩ = some (.slice Ao79 t797.length co79) ∧ w'.cell? ⟨gb807, 4, none⟩ = some (.int .i64 t800) ∧ w'.cell? ⟨gb807, 5, none⟩ = some (.string t801) ∧ w'.cell? ⟨gb807, 6, none⟩ = some (.string t802) ∧ w'.cell? ⟨gb807, 7, none⟩ = some (.int .i64 t803) ∧ w'.cell? ⟨gb807, 8, none⟩ = some (.int .i64 t804) ∧ w'.cell? ⟨gb807, 9, none⟩ = some (.int .i64 t805) ∧ w'.cell? ⟨gb832, 0, none⟩ = some (.int .i64 t808) ∧ w'.cell? ⟨gb832, 1, none⟩ = some (.int .i64 t809) ∧ w'.cell? ⟨gb832, 2, none⟩ = some (.int .i64 t810) ∧ w'.cell? ⟨gb832, 3, none⟩ = some (.slice Ao91 t811.length co91) ∧ w'.cell? ⟨gb832, 4, none⟩ = some (.int .i64 t814) ∧ w'.cell? ⟨gb832, 5, none⟩ = some (.string t815) ∧ w'.cell? ⟨gb832, 6, none⟩ = some (.string t816) ∧ w'.cell? ⟨gb832, 7, none⟩ = some (.int .i64 t817) ∧ w'.cell? ⟨gb832, 8, none⟩ = some (.int .i64 t818) ∧ w'.cell? ⟨gb832, 9, none⟩ = some (.int .i64 t819) ∧ w'.cell? ⟨gb833, 0, none⟩ = some (.int .i64 t820) ∧ w'.cell? ⟨gb833, 1, none⟩ = some (.int .i64 t821) ∧ w'.cell? ⟨gb833, 2, none⟩ = some (.int .i64 t822) ∧ w'.cell? ⟨gb833, 3, none⟩ = some (.slice Ao99 t823.length co99) ∧ w'.cell? ⟨gb833, 4, none⟩ = some (.int .i64 t826) ∧ w'.cell? ⟨gb833, 5, none⟩ = some (.string t827) ∧ w'.cell? ⟨gb833, 6, none⟩ = some (.string t828) ∧ w'.cell? ⟨gb833, 7, none⟩ = some (.int .i64 t829) ∧ w'.cell? ⟨gb833, 8, none⟩ = some (.int .i64 t830) ∧ w'.cell? ⟨gb833, 9, none⟩ = some (.int .i64 t831)) (ds := []) mk22_0 z22_64 rfl rfl (jn10 BK732 (jn10 BK766 (jn10 BK781 (jn10 BK806 (jn10 BK807 (jn10 BK832 (ln10 BK833))))))) (fun hHeld => ?_); refine with_tabW laws_FnActs.tab12 laws_FnActs.bits12 (fun HT_ HW_ => ?_)
  generalize w100.drew = w262 at HO725 HO740 HO757 HO772 HO787 HO799 HO813 HO825 BK732 BK749 BK766 BK781 BK806 BK807 BK832 BK833 HB hHeld ⊢
  refine p_ (i := 0) (N := some 70) mk22_1 ?_
  refine t_ (i := 1) (N := some 71) mk22_2 hHeld ?_
  refine o_ (i := 2) (N := some 72) mk22_3 (fun K hK => ?_)
  refine goes_ Try.func16 z22_64 rfl #[.agg #[.int .i64 t720, .int .i64 t721, .int .i64 t722, .slice Ao43 t723.length co43, .int .i64 t726, .string t727, .string t728, .int .i64 t729, .int .i64 t730, .int .i64 t731]] (by rfl) rfl rfl z22_18 ?_
  with_reducible refine (spec_ActOk.calls k t720 t721 t722 _ _ t723 t726 t727 t728 t729 t730 t731 t835 _ ?side1 ?side2 A15.out).mono ?_
  (case side1 => exact z22_101)
  (case side2 => exact (Kd.R_reads' HO725.out).2.1)
  rintro e w263 ⟨rfl, hb⟩
  refine ⟨_, rfl, ?_⟩
  replace HO725 := Aside0.mk (Kd.R_below z22_16 hb)
  replace HO740 := Aside0.mk (Kd.R_below z22_19 hb)
  replace HO757 := Aside0.mk (Kd.R_below z22_22 hb)
  replace HO772 := Aside0.mk (Kd.R_below z22_23 hb)
  replace HO787 := Aside0.mk (Kd.R_below z22_27 hb)
  replace HO799 := Aside0.mk (Kd.R_below z22_26 hb)
  replace HO813 := Aside0.mk (Kd.R_below z22_35 hb)
  replace HO825 := Aside0.mk (Kd.R_below z22_34 hb)
  replace BK732 := bb_ BK732 z22_1 hb
  replace BK749 := bb_ BK749 z22_2 hb
  replace BK766 := bb_ BK766 z22_3 hb
  replace BK781 := bb_ BK781 z22_4 hb
  replace BK806 := bb_ BK806 z22_17 hb
  replace BK807 := bb_ BK807 z22_21 hb
  replace BK832 := bb_ BK832 z22_24 hb
  replace BK833 := bb_ BK833 z22_61 hb
  replace HB := Aside0.mk (below_step z22_0 hb)
  (try clear hb)
  (try clear hb2)
  (try clear hk)
  (try clear hi)
  refine hK.out _ _ (jn10 BK732 (jn10 BK766 (jn10 BK781 (jn10 BK806 (jn10 BK807 (jn10 BK832 (ln10 BK833))))))) (fun hHeld => ?_)
  clear hK K
  refine n_ (N := some 72) ?_
  refine p_ (i := 3) (N := some 73) mk22_4 ?_
  refine p_ (i := 4) (N := some 74) mk22_5 ?_
  refine p_ (i := 7) (N := some 77) mk22_6 ?_
  refine t_ (i := 5) (N := some 75) mk22_7 hHeld ?_
  refine o_ (i := 6) (N := some 76) mk22_8 (fun K hK => ?_)
  refine goes_ Try.func17 z22_64 rfl #[.agg #[.int .i64 t720, .int .i64 t721, .int .i64 t722, .slice Ao43 t723.length co43, .int .i64 t726, .string t727, .string t728, .int .i64 t729, .int .i64 t730, .int .i64 t731]] (by rfl) rfl rfl z22_18 ?_
  with_reducible refine (impl_ActOk.calls k t720 t721 t722 _ _ t723 t726 t727 t728 t729 t730 t731 t836 _ ?side1 ?side2 A17.out).mono ?_
  (case side1 => exact z22_101)
  (case side2 => exact (Kd.R_reads' HO725.out).2.1)
  rintro e w264 ⟨rfl, hb⟩
  refine ⟨_, rfl, ?_⟩
  replace HO725 := Aside0.mk (Kd.R_below z22_16 hb)
  replace HO740 := Aside0.mk (Kd.R_below z22_19 hb)
  replace HO757 := Aside0.mk (Kd.R_below z22_22 hb)
  replace HO772 := Aside0.mk (Kd.R_below z22_23 hb)
  replace HO787 := Aside0.mk (Kd.R_below z22_27 hb)
  replace HO799 := Aside0.mk (Kd.R_below z22_26 hb)
  replace HO813 := Aside0.mk (Kd.R_below z22_35 hb)
  replace HO825 := Aside0.mk (Kd.R_below z22_34 hb)
  replace BK732 := bb_ BK732 z22_1 hb
  replace BK749 := bb_ BK749 z22_2 hb
  replace BK766 := bb_ BK766 z22_3 hb
  replace BK781 := bb_ BK781 z22_4 hb
  replace BK806 := bb_ BK806 z22_17 hb
  replace BK807 := bb_ BK807 z22_21 hb
  replace BK832 := bb_ BK832 z22_24 hb
  replace BK833 := bb_ BK833 z22_61 hb
  replace HB := Aside0.mk (below_step z22_0 hb)
  (try clear hb)
  (try clear hb2)
  (try clear hk)
  (try clear hi)
  refine hK.out _ _ (jn10 BK732 (jn10 BK766 (jn10 BK781 (jn10 BK806 (jn10 BK807 (jn10 BK832 (ln10 BK833))))))) (fun hHeld => ?_)
  clear hK K
  refine n_ (N := some 76) ?_
  refine p_ (i := 8) (N := some 78) mk22_9 ?_
  refine p_ (i := 9) (N := some 79) mk22_10 ?_
  refine p_ (i := 10) (N := some 80) mk22_11 ?_
  refine p_ (i := 11) (N := some 81) mk22_12 ?_
  refine p_ (i := 12) (N := some 82) mk22_13 ?_
  refine p_ (i := 13) (N := some 83) mk22_14 ?_
  refine u_ (i := 14) (N := some 84) mk22_15 ?_
  refine u_ (i := 15) (N := some 85) mk22_16 ?_
  refine u_ (i := 16) (N := some 86) mk22_17 ?_
  refine u_ (i := 17) (N := some 87) mk22_18 ?_
  refine u_ (i := 18) (N := some 88) mk22_19 ?_
  refine u_ (i := 19) (N := some 89) mk22_20 ?_
  refine u_ (i := 20) (N := some 90) mk22_21 ?_
  refine u_ (i := 21) (N := some 91) mk22_22 ?_
  refine u_ (i := 22) (N := some 92) mk22_23 ?_
  refine u_ (i := 23) (N := some 93) mk22_24 ?_
  refine u_ (i := 24) (N := some 94) mk22_25 ?_
  refine u_ (i := 25) (N := some 95) mk22_26 ?_
  refine u_ (i := 26) (N := some 96) mk22_27 ?_
  refine p_ (i := 27) (N := some 97) mk22_28 ?_
  refine p_ (i := 28) (N := some 98) mk22_29 ?_
  refine p_ (i := 29) (N := some 99) mk22_30 ?_
  refine p_ (i := 30) (N := some 100) mk22_31 ?_
  refine p_ (i := 31) (N := some 101) mk22_32 ?_
  refine p_ (i := 32) (N := some 102) mk22_33 ?_
  refine p_ (i := 33) (N := some 103) mk22_34 ?_
  refine p_ (i := 34) (N := some 104) mk22_35 ?_
  refine p_ (i := 35) (N := some 105) mk22_36 ?_
  refine p_ (i := 36) (N := some 106) mk22_37 ?_
  refine p_ (i := 37) (N := some 107) mk22_38 ?_
  refine p_ (i := 38) (N := some 108) mk22_39 ?_
  refine p_ (i := 39) (N := some 109) mk22_40 ?_
  refine t_ (i := 40) (N := some 110) mk22_41 hHeld ?_
  refine t_ (i := 41) (N := some 111) mk22_42 hHeld ?_
  refine o_ (i := 42) (N := some 112) mk22_43 (fun K hK => ?_)
  refine goes_ Try.func18 z22_64 rfl #[.agg #[.int .i64 t752, .int .i64 t753, .int .i64 t754, .slice Ao56 t755.length co56, .int .i64 t758, .string t759, .string t760, .int .i64 t761, .int .i64 t762, .int .i64 t763], .agg #[.int .i64 t767, .int .i64 t768, .int .i64 t769, .slice Ao63 t770.length co63, .int .i64 t773, .string t774, .string t775, .int .i64 t776, .int .i64 t777, .int .i64 t778]] (by rfl) rfl rfl z22_18 ?_
  with_reducible refine (spec_SameAct.calls k t752 t753 t754 _ _ t755 t758 t759 t760 t761 t762 t763 t767 t768 t769 _ _ t770 t773 t774 t775 t776 t777 t778 true _ ?side1 ?side2 ?side3 ?side4 A187.out).mono ?_
  (case side1 => exact z22_103)
  (case side2 => exact (Kd.R_reads' HO757.out).2.1)
  (case side3 => exact z22_104)
  (case side4 => exact (Kd.R_reads' HO772.out).2.1)
  rintro e w265 ⟨rfl, hb⟩
  refine ⟨_, rfl, ?_⟩
  replace HO725 := Aside0.mk (Kd.R_below z22_16 hb)
  replace HO740 := Aside0.mk (Kd.R_below z22_19 hb)
  replace HO757 := Aside0.mk (Kd.R_below z22_22 hb)
  replace HO772 := Aside0.mk (Kd.R_below z22_23 hb)
  replace HO787 := Aside0.mk (Kd.R_below z22_27 hb)
  replace HO799 := Aside0.mk (Kd.R_below z22_26 hb)
  replace HO813 := Aside0.mk (Kd.R_below z22_35 hb)
  replace HO825 := Aside0.mk (Kd.R_below z22_34 hb)
  replace BK732 := bb_ BK732 z22_1 hb
  replace BK749 := bb_ BK749 z22_2 hb
  replace BK766 := bb_ BK766 z22_3 hb
  replace BK781 := bb_ BK781 z22_4 hb
  replace BK806 := bb_ BK806 z22_17 hb
  replace BK807 := bb_ BK807 z22_21 hb
  replace BK832 := bb_ BK832 z22_24 hb
  replace BK833 := bb_ BK833 z22_61 hb
  replace HB := Aside0.mk (below_step z22_0 hb)
  (try clear hb)
  (try clear hb2)
  (try clear hk)
  (try clear hi)
  refine hK.out _ _ (jn10 BK732 (jn10 BK766 (jn10 BK781 (jn10 BK806 (jn10 BK807 (jn10 BK832 (ln10 BK833))))))) (fun hHeld => ?_)
  clear hK K
  refine n_ (N := some 112) ?_
  refine p_ (i := 43) (N := some 113) mk22_44 ?_
  refine p_ (i := 44) (N := some 114) mk22_45 ?_
  refine t_ (i := 45) (N := some 115) mk22_46 hHeld ?_
  refine t_ (i := 46) (N := some 116) mk22_47 hHeld ?_
  refine t_ (i := 48) (N := some 118) mk22_48 hHeld ?_
  refine t_ (i := 49) (N := some 119) mk22_49 hHeld ?_
  refine o_ (i := 47) (N := some 117) mk22_50 (fun K hK => ?_)
  refine goes_ Try.func19 z22_64 rfl #[.agg #[.int .i64 t782, .int .i64 t783, .int .i64 t784, .slice Ao73 t785.length co73, .int .i64 t788, .string t789, .string t790, .int .i64 t791, .int .i64 t792, .int .i64 t793], .agg #[.int .i64 t794, .int .i64 t795, .int .i64 t796, .slice Ao79 t797.length co79, .int .i64 t800, .string t801, .string t802, .int .i64 t803, .int .i64 t804, .int .i64 t805]] (by rfl) rfl rfl z22_18 ?_
  with_reducible refine (impl_SameAct.calls k t782 t783 t784 _ _ t785 t788 t789 t790 t791 t792 t793 t794 t795 t796 _ _ t797 t800 t801 t802 t803 t804 t805 t850 _ ?side1 ?side2 ?side3 ?side4 A189.out).mono ?_
  (case side1 => exact z22_105)
  (case side2 => exact (Kd.R_reads' HO787.out).2.1)
  (case side3 => exact z22_106)
  (case side4 => exact (Kd.R_reads' HO799.out).2.1)
  rintro e w266 ⟨rfl, hb⟩
  refine ⟨_, rfl, ?_⟩
  replace HO725 := Aside0.mk (Kd.R_below z22_16 hb)
  replace HO740 := Aside0.mk (Kd.R_below z22_19 hb)
  replace HO757 := Aside0.mk (Kd.R_below z22_22 hb)
  replace HO772 := Aside0.mk (Kd.R_below z22_23 hb)
  replace HO787 := Aside0.mk (Kd.R_below z22_27 hb)
  replace HO799 := Aside0.mk (Kd.R_below z22_26 hb)
  replace HO813 := Aside0.mk (Kd.R_below z22_35 hb)
  replace HO825 := Aside0.mk (Kd.R_below z22_34 hb)
  replace BK732 := bb_ BK732 z22_1 hb
  replace BK749 := bb_ BK749 z22_2 hb
  replace BK766 := bb_ BK766 z22_3 hb
  replace BK781 := bb_ BK781 z22_4 hb
  replace BK806 := bb_ BK806 z22_17 hb
  replace BK807 := bb_ BK807 z22_21 hb
  replace BK832 := bb_ BK832 z22_24 hb
  replace BK833 := bb_ BK833 z22_61 hb
  replace HB := Aside0.mk (below_step z22_0 hb)
  (try clear hb)
  (try clear hb2)
  (try clear hk)
  (try clear hi)
  refine hK.out _ _ (jn10 BK732 (jn10 BK766 (jn10 BK781 (jn10 BK806 (jn10 BK807 (jn10 BK832 (ln10 BK833))))))) (fun hHeld => ?_)
  clear hK K
  refine n_ (N := some 117) ?_
  refine o_ (i := 50) (N := some 120) mk22_51 (fun K hK => ?_)
  refine goes_ Try.func18 z22_64 rfl #[.agg #[.int .i64 t782, .int .i64 t783, .int .i64 t784, .slice Ao73 t785.length co73, .int .i64 t788, .string t789, .string t790, .int .i64 t791, .int .i64 t792, .int .i64 t793], .agg #[.int .i64 t794, .int .i64 t795, .int .i64 t796, .slice Ao79 t797.length co79, .int .i64 t800, .string t801, .string t802, .int .i64 t803, .int .i64 t804, .int .i64 t805]] (by rfl) rfl rfl z22_18 ?_
  with_reducible refine (spec_SameAct.calls k t782 t783 t784 _ _ t785 t788 t789 t790 t791 t792 t793 t794 t795 t796 _ _ t797 t800 t801 t802 t803 t804 t805 t851 _ ?side1 ?side2 ?side3 ?side4 A190.out).mono ?_
  (case side1 => exact z22_105)
  (case side2 => exact (Kd.R_reads' HO787.out).2.1)
  (case side3 => exact z22_106)
  (case side4 => exact (Kd.R_reads' HO799.out).2.1)
  rintro e w267 ⟨rfl, hb⟩
  refine ⟨_, rfl, ?_⟩
  replace HO725 := Aside0.mk (Kd.R_below z22_16 hb)
  replace HO740 := Aside0.mk (Kd.R_below z22_19 hb)
  replace HO757 := Aside0.mk (Kd.R_below z22_22 hb)
  replace HO772 := Aside0.mk (Kd.R_below z22_23 hb)
  replace HO787 := Aside0.mk (Kd.R_below z22_27 hb)
  replace HO799 := Aside0.mk (Kd.R_below z22_26 hb)
  replace HO813 := Aside0.mk (Kd.R_below z22_35 hb)
  replace HO825 := Aside0.mk (Kd.R_below z22_34 hb)
  replace BK732 := bb_ BK732 z22_1 hb
  replace BK749 := bb_ BK749 z22_2 hb
  replace BK766 := bb_ BK766 z22_3 hb
  replace BK781 := bb_ BK781 z22_4 hb
  replace BK806 := bb_ BK806 z22_17 hb
  replace BK807 := bb_ BK807 z22_21 hb
  replace BK832 := bb_ BK832 z22_24 hb
  replace BK833 := bb_ BK833 z22_61 hb
  replace HB := Aside0.mk (below_step z22_0 hb)
  (try clear hb)
  (try clear hb2)
  (try clear hk)
  (try clear hi)
  refine hK.out _ _ (jn10 BK732 (jn10 BK766 (jn10 BK781 (jn10 BK806 (jn10 BK807 (jn10 BK832 (ln10 BK833))))))) (fun hHeld => ?_)
  clear hK K
  refine n_ (N := some 120) ?_
  refine p_ (i := 51) (N := some 121) mk22_52 ?_
  refine p_ (i := 52) (N := some 122) mk22_53 ?_
  refine p_ (i := 53) (N := some 123) mk22_54 ?_
  refine t_ (i := 54) (N := some 124) mk22_55 hHeld ?_
  refine t_ (i := 55) (N := some 125) mk22_56 hHeld ?_
  refine t_ (i := 57) (N := some 127) mk22_57 hHeld ?_
  refine t_ (i := 58) (N := some 128) mk22_58 hHeld ?_
  refine o_ (i := 56) (N := some 126) mk22_59 (fun K hK => ?_)
  refine goes_ Try.func20 z22_64 rfl #[.agg #[.int .i64 t808, .int .i64 t809, .int .i64 t810, .slice Ao91 t811.length co91, .int .i64 t814, .string t815, .string t816, .int .i64 t817, .int .i64 t818, .int .i64 t819], .agg #[.int .i64 t820, .int .i64 t821, .int .i64 t822, .slice Ao99 t823.length co99, .int .i64 t826, .string t827, .string t828, .int .i64 t829, .int .i64 t830, .int .i64 t831]] (by rfl) rfl rfl z22_18 ?_
  with_reducible refine (impl_Later.calls t808 t809 t810 _ _ t811 t814 t815 t816 t817 t818 t819 t820 t821 t822 _ _ t823 t826 t827 t828 t829 t830 t831 t852 _ ?side1 ?side2 ?side3 ?side4 A192.out).mono ?_
  (case side1 => exact z22_107)
  (case side2 => exact (Kd.R_reads' HO813.out).2.1)
  (case side3 => exact z22_108)
  (case side4 => exact (Kd.R_reads' HO825.out).2.1)
  rintro e w268 ⟨rfl, hb⟩
  refine ⟨_, rfl, ?_⟩
  replace HO725 := Aside0.mk (Kd.R_below z22_16 hb)
  replace HO740 := Aside0.mk (Kd.R_below z22_19 hb)
  replace HO757 := Aside0.mk (Kd.R_below z22_22 hb)
  replace HO772 := Aside0.mk (Kd.R_below z22_23 hb)
  replace HO787 := Aside0.mk (Kd.R_below z22_27 hb)
  replace HO799 := Aside0.mk (Kd.R_below z22_26 hb)
  replace HO813 := Aside0.mk (Kd.R_below z22_35 hb)
  replace HO825 := Aside0.mk (Kd.R_below z22_34 hb)
  replace BK732 := bb_ BK732 z22_1 hb
  replace BK749 := bb_ BK749 z22_2 hb
  replace BK766 := bb_ BK766 z22_3 hb
  replace BK781 := bb_ BK781 z22_4 hb
  replace BK806 := bb_ BK806 z22_17 hb
  replace BK807 := bb_ BK807 z22_21 hb
  replace BK832 := bb_ BK832 z22_24 hb
  replace BK833 := bb_ BK833 z22_61 hb
  replace HB := Aside0.mk (below_step z22_0 hb)
  (try clear hb)
  (try clear hb2)
  (try clear hk)
  (try clear hi)
  refine hK.out _ _ (jn10 BK732 (jn10 BK766 (jn10 BK781 (jn10 BK806 (jn10 BK807 (jn10 BK832 (ln10 BK833))))))) (fun hHeld => ?_)
  clear hK K
  refine n_ (N := some 126) ?_
  refine o_ (i := 59) (N := some 129) mk22_60 (fun K hK => ?_)
  refine goes_ Try.func21 z22_64 rfl #[.agg #[.int .i64 t808, .int .i64 t809, .int .i64 t810, .slice Ao91 t811.length co91, .int .i64 t814, .string t815, .string t816, .int .i64 t817, .int .i64 t818, .int .i64 t819], .agg #[.int .i64 t820, .int .i64 t821, .int .i64 t822, .slice Ao99 t823.length co99, .int .i64 t826, .string t827, .string t828, .int .i64 t829, .int .i64 t830, .int .i64 t831]] (by rfl) rfl rfl z22_18 ?_
  with_reducible refine (spec_Later.calls t808 t809 t810 _ _ t811 t814 t815 t816 t817 t818 t819 t820 t821 t822 _ _ t823 t826 t827 t828 t829 t830 t831 t853 _ ?side1 ?side2 ?side3 ?side4 A193.out).mono ?_
  (case side1 => exact z22_107)
  (case side2 => exact (Kd.R_reads' HO813.out).2.1)
  (case side3 => exact z22_108)
  (case side4 => exact (Kd.R_reads' HO825.out).2.1)
  rintro e w269 ⟨rfl, hb⟩
  refine ⟨_, rfl, ?_⟩
  replace HO725 := Aside0.mk (Kd.R_below z22_16 hb)
  replace HO740 := Aside0.mk (Kd.R_below z22_19 hb)
  replace HO757 := Aside0.mk (Kd.R_below z22_22 hb)
  replace HO772 := Aside0.mk (Kd.R_below z22_23 hb)
  replace HO787 := Aside0.mk (Kd.R_below z22_27 hb)
  replace HO799 := Aside0.mk (Kd.R_below z22_26 hb)
  replace HO813 := Aside0.mk (Kd.R_below z22_35 hb)
  replace HO825 := Aside0.mk (Kd.R_below z22_34 hb)
  replace BK732 := bb_ BK732 z22_1 hb
  replace BK749 := bb_ BK749 z22_2 hb
  replace BK766 := bb_ BK766 z22_3 hb
  replace BK781 := bb_ BK781 z22_4 hb
  replace BK806 := bb_ BK806 z22_17 hb
  replace BK807 := bb_ BK807 z22_21 hb
  replace BK832 := bb_ BK832 z22_24 hb
  replace BK833 := bb_ BK833 z22_61 hb
  replace HB := Aside0.mk (below_step z22_0 hb)
  (try clear hb)
  (try clear hb2)
  (try clear hk)
  (try clear hi)
  refine hK.out _ _ (jn10 BK732 (jn10 BK766 (jn10 BK781 (jn10 BK806 (jn10 BK807 (jn10 BK832 (ln10 BK833))))))) (fun hHeld => ?_)
  clear hK K
  refine n_ (N := some 129) ?_
  refine p_ (i := 60) (N := some 130) mk22_61 ?_
  refine p_ (i := 61) (N := some 131) mk22_62 ?_
  refine p_ (i := 62) (N := some 132) mk22_63 ?_
  refine t_ (i := 63) (N := some 133) mk22_64 hHeld ?_
  refine t_ (i := 64) (N := some 134) mk22_65 hHeld ?_
  refine o_ (i := 65) (N := some 135) mk22_66 (fun K hK => ?_)
  refine goes_ Try.func20 z22_64 rfl #[.agg #[.int .i64 t808, .int .i64 t809, .int .i64 t810, .slice Ao91 t811.length co91, .int .i64 t814, .string t815, .string t816, .int .i64 t817, .int .i64 t818, .int .i64 t819], .agg #[.int .i64 t820, .int .i64 t821, .int .i64 t822, .slice Ao99 t823.length co99, .int .i64 t826, .string t827, .string t828, .int .i64 t829, .int .i64 t830, .int .i64 t831]] (by rfl) rfl rfl z22_18 ?_
  with_reducible refine (impl_Later.calls t808 t809 t810 _ _ t811 t814 t815 t816 t817 t818 t819 t820 t821 t822 _ _ t823 t826 t827 t828 t829 t830 t831 true _ ?side1 ?side2 ?side3 ?side4 A195.out).mono ?_
  (case side1 => exact z22_107)
  (case side2 => exact (Kd.R_reads' HO813.out).2.1)
  (case side3 => exact z22_108)
  (case side4 => exact (Kd.R_reads' HO825.out).2.1)
  rintro e w270 ⟨rfl, hb⟩
  refine ⟨_, rfl, ?_⟩
  replace HO725 := Aside0.mk (Kd.R_below z22_16 hb)
  replace HO740 := Aside0.mk (Kd.R_below z22_19 hb)
  replace HO757 := Aside0.mk (Kd.R_below z22_22 hb)
  replace HO772 := Aside0.mk (Kd.R_below z22_23 hb)
  replace HO787 := Aside0.mk (Kd.R_below z22_27 hb)
  replace HO799 := Aside0.mk (Kd.R_below z22_26 hb)
  replace HO813 := Aside0.mk (Kd.R_below z22_35 hb)
  replace HO825 := Aside0.mk (Kd.R_below z22_34 hb)
  replace BK732 := bb_ BK732 z22_1 hb
  replace BK749 := bb_ BK749 z22_2 hb
  replace BK766 := bb_ BK766 z22_3 hb
  replace BK781 := bb_ BK781 z22_4 hb
  replace BK806 := bb_ BK806 z22_17 hb
  replace BK807 := bb_ BK807 z22_21 hb
  replace BK832 := bb_ BK832 z22_24 hb
  replace BK833 := bb_ BK833 z22_61 hb
  replace HB := Aside0.mk (below_step z22_0 hb)
  (try clear hb)
  (try clear hb2)
  (try clear hk)
  (try clear hi)
  refine hK.out _ _ (jn10 BK732 (jn10 BK766 (jn10 BK781 (jn10 BK806 (jn10 BK807 (jn10 BK832 (ln10 BK833))))))) (fun hHeld => ?_)
  clear hK K
  refine n_ (N := some 135) ?_
  refine p_ (i := 66) (N := some 136) mk22_67 ?_
  refine t_ (i := 67) (N := some 137) mk22_68 hHeld ?_
  refine t_ (i := 68) (N := some 138) mk22_69 hHeld ?_
  refine o_ (i := 69) (N := some 139) mk22_70 (fun K hK => ?_)
  refine goes_ Try.func20 z22_64 rfl #[.agg #[.int .i64 t820, .int .i64 t821, .int .i64 t822, .slice Ao99 t823.length co99, .int .i64 t826, .string t827, .string t828, .int .i64 t829, .int .i64 t830, .int .i64 t831], .agg #[.int .i64 t808, .int .i64 t809, .int .i64 t810, .slice Ao91 t811.length co91, .int .i64 t814, .string t815, .string t816, .int .i64 t817, .int .i64 t818, .int .i64 t819]] (by rfl) rfl rfl z22_18 ?_
  with_reducible refine (impl_Later.calls t820 t821 t822 _ _ t823 t826 t827 t828 t829 t830 t831 t808 t809 t810 _ _ t811 t814 t815 t816 t817 t818 t819 false _ ?side1 ?side2 ?side3 ?side4 A197.out).mono ?_
  (case side1 => exact z22_108)
  (case side2 => exact (Kd.R_reads' HO825.out).2.1)
  (case side3 => exact z22_107)
  (case side4 => exact (Kd.R_reads' HO813.out).2.1)
  rintro e w271 ⟨rfl, hb⟩
  refine ⟨_, rfl, ?_⟩
  replace HO725 := Aside0.mk (Kd.R_below z22_16 hb)
  replace HO740 := Aside0.mk (Kd.R_below z22_19 hb)
  replace HO757 := Aside0.mk (Kd.R_below z22_22 hb)
  replace HO772 := Aside0.mk (Kd.R_below z22_23 hb)
  replace HO787 := Aside0.mk (Kd.R_below z22_27 hb)
  replace HO799 := Aside0.mk (Kd.R_below z22_26 hb)
  replace HO813 := Aside0.mk (Kd.R_below z22_35 hb)
  replace HO825 := Aside0.mk (Kd.R_below z22_34 hb)
  replace BK732 := bb_ BK732 z22_1 hb
  replace BK749 := bb_ BK749 z22_2 hb
  replace BK766 := bb_ BK766 z22_3 hb
  replace BK781 := bb_ BK781 z22_4 hb
  replace BK806 := bb_ BK806 z22_17 hb
  replace BK807 := bb_ BK807 z22_21 hb
  replace BK832 := bb_ BK832 z22_24 hb
  replace BK833 := bb_ BK833 z22_61 hb
  replace HB := Aside0.mk (below_step z22_0 hb)
  (try clear hb)
  (try clear hb2)
  (try clear hk)
  (try clear hi)
  refine hK.out _ _ (jn10 BK732 (jn10 BK766 (jn10 BK781 (jn10 BK806 (jn10 BK807 (jn10 BK832 (ln10 BK833))))))) (fun hHeld => ?_)
  clear hK K
  refine n_ (N := some 139) ?_
  refine p_ (i := 70) (N := some 140) mk22_71 ?_
  refine p_ (i := 71) (N := some 141) mk22_72 ?_
  refine p_ (i := 72) (N := some 142) mk22_73 ?_
  refine p_ (i := 73) (N := some 143) mk22_74 ?_
  refine p_ (i := 74) (N := some 144) mk22_75 ?_
  refine p_ (i := 76) (N := some 146) mk22_76 ?_
  refine o_ (i := 75) (N := some 145) mk22_77 (fun K hK => ?_)
  refine goes_ Try.func22 z22_64 rfl #[.string t834] (by rfl) rfl rfl z22_18 ?_
  with_reducible refine (impl_NameOk.calls k t834 t856 _ A199.out).mono ?_
  rintro e w' ⟨rfl, ⟨nd, rfl⟩⟩
  refine ⟨_, rfl, ?_⟩
  refine hK.out _ _ (jn10 BK732 (jn10 BK766 (jn10 BK781 (jn10 BK806 (jn10 BK807 (jn10 BK832 (ln10 BK833))))))) (fun hHeld => ?_)
  clear hK K
  refine n_ (N := some 145) ?_
  refine o_ (i := 77) (N := some 147) mk22_78 (fun K hK => ?_)
  refine goes_ Try.func23 z22_64 rfl #[.string t834] (by rfl) rfl rfl z22_18 ?_
  with_reducible refine (spec_NameOk.calls k t834 t857 _ A200.out).mono ?_
  rintro e w' ⟨rfl, ⟨nd, rfl⟩⟩
  refine ⟨_, rfl, ?_⟩
  refine hK.out _ _ (jn10 BK732 (jn10 BK766 (jn10 BK781 (jn10 BK806 (jn10 BK807 (jn10 BK832 (ln10 BK833))))))) (fun hHeld => ?_)
  clear hK K
  refine n_ (N := some 147) ?_
  refine p_ (i := 78) (N := some 148) mk22_79 ?_
  refine p_ (i := 79) (N := some 149) mk22_80 ?_
  refine p_ (i := 80) (N := some 2) mk22_81 ?_
  refine done_ (done_of HT_.out z22_64) ?_
  try go_wp2
  go_ret
  exact ⟨z22_99, z22_0⟩
 subst c19
 rw [if_pos rfl] at H
 by_cases c20 : t748 = true
 rotate_left
 ·
  replace c20 := Bool.eq_false_iff.mpr c20
  subst c20
  rw [if_neg (show ¬ (false = true) by decide)] at H
  exact absurd H (by simp)
 subst c20
 rw [if_pos rfl] at H
 replace H := Option.bind_eq_some_iff.mp H
 obtain ⟨t837, A210, H⟩ := H
 (try dsimp only at H)
 have A21 := Aside0.mk A210
 clear A210
 by_cases c22 : t837 = true
 rotate_left
 ·
  replace c22 := Bool.eq_false_iff.mpr c22
  subst c22
  rw [if_neg (show ¬ (false = true) by decide)] at H
  exact absurd H (by simp)
 subst c22
 rw [if_pos rfl] at H
 by_cases c23 : t747 = (wrap64 (2 + (t733.size : Int)))
 rotate_left
 ·
  rw [if_neg c23] at H
  have c23b0 : (t747 == (wrap64 (2 + (t733.size : Int)))) = false := beq_eq_false_iff_ne.mpr c23
  have c23b1 : (t747 != (wrap64 (2 + (t733.size : Int)))) = true := bne_iff_ne.mpr c23
  exact absurd H (by simp)
 rw [if_pos c23] at H
 have c23b0 : (t747 == (wrap64 (2 + (t733.size : Int)))) = true := beq_iff_eq.mpr c23
 have c23b1 : (t747 != (wrap64 (2 + (t733.size : Int)))) = false := bne_eq_false_iff_eq.mpr c23
 clear c23
 by_cases c24 : (t765 == t780) = true
 rotate_left
 ·
  rw [if_neg c24] at H
  have c24b0 : (t765 == t780) = false := by simpa using c24
  (try (have c24b1 : decide (t765 = t780) = false := by simpa using c24))
  (try (have c24b2 : (t765 == t780) = false := by simpa using c24))
  (try (have c24b3 : ¬ (t765 = t780) := by simpa using c24))
  clear c24
  exact absurd H (by simp)
 rw [if_pos c24] at H
 have c24b0 : (t765 == t780) = true := c24
 (try (have c24b1 : decide (t765 = t780) = true := by simpa using c24))
 (try (have c24b2 : (t765 == t780) = true := by simpa using c24))
 clear c24
 by_cases c25 : t764 = t779
 rotate_left
 ·
  rw [if_neg c25] at H
  have c25b0 : (t764 == t779) = false := beq_eq_false_iff_ne.mpr c25
  have c25b1 : (t764 != t779) = true := bne_iff_ne.mpr c25
  exact absurd H (by simp)
 rw [if_pos c25] at H
 have c25b0 : (t764 == t779) = true := beq_iff_eq.mpr c25
 have c25b1 : (t764 != t779) = false := bne_eq_false_iff_eq.mpr c25
 clear c25
 replace H := Option.bind_eq_some_iff.mp H
 obtain ⟨t838, A260, H⟩ := H
 (try dsimp only at H)
 have A26 := Aside0.mk A260
 clear A260
 by_cases c27 : t838 = true
 rotate_left
 ·
  replace c27 := Bool.eq_false_iff.mpr c27
  subst c27
  rw [if_neg (show ¬ (false = true) by decide)] at H
  exact absurd H (by simp)
 subst c27
 rw [if_pos rfl] at H
 replace H := Option.bind_eq_some_iff.mp H
 obtain ⟨t839, A280, H⟩ := H
 (try dsimp only at H)
 have A28 := Aside0.mk A280
 clear A280
 replace H := Option.bind_eq_some_iff.mp H
 obtain ⟨t840, A290, H⟩ := H
 (try dsimp only at H)
 have A29 := Aside0.mk A290
 clear A290
 by_cases c30 : (t839 == t840) = true
 rotate_left
 ·
  rw [if_neg c30] at H
  have c30b0 : (t839 == t840) = false := by simpa using c30
  (try (have c30b1 : decide (t839 = t840) = false := by simpa using c30))
  (try (have c30b2 : (t839 == t840) = false := by simpa using c30))
  (try (have c30b3 : ¬ (t839 = t840) := by simpa using c30))
  clear c30
  exact absurd H (by simp)
 rw [if_pos c30] at H
 have c30b0 : (t839 == t840) = true := c30
 (try (have c30b1 : decide (t839 = t840) = true := by simpa using c30))
 (try (have c30b2 : (t839 == t840) = true := by simpa using c30))
 clear c30
 replace H := Option.bind_eq_some_iff.mp H
 obtain ⟨t841, A310, H⟩ := H
 (try dsimp only at H)
 have A31 := Aside0.mk A310
 clear A310
 replace H := Option.bind_eq_some_iff.mp H
 obtain ⟨t842, A320, H⟩ := H
 (try dsimp only at H)
 have A32 := Aside0.mk A320
 clear A320
 by_cases c33 : (t841 == t842) = true
 rotate_left
 ·
  rw [if_neg c33] at H
  have c33b0 : (t841 == t842) = false := by simpa using c33
  (try (have c33b1 : decide (t841 = t842) = false := by simpa using c33))
  (try (have c33b2 : (t841 == t842) = false := by simpa using c33))
  (try (have c33b3 : ¬ (t841 = t842) := by simpa using c33))
  clear c33
  exact absurd H (by simp)
 rw [if_pos c33] at H
 have c33b0 : (t841 == t842) = true := c33
 (try (have c33b1 : decide (t841 = t842) = true := by simpa using c33))
 (try (have c33b2 : (t841 == t842) = true := by simpa using c33))
 clear c33
 replace H := Option.bind_eq_some_iff.mp H
 obtain ⟨t843, A340, H⟩ := H
 (try dsimp only at H)
 have A34 := Aside0.mk A340
 clear A340
 by_cases c35 : t843 = true
 rotate_left
 ·
  replace c35 := Bool.eq_false_iff.mpr c35
  subst c35
  rw [if_neg (show ¬ (false = true) by decide)] at H
  replace H := Option.bind_eq_some_iff.mp H
  obtain ⟨t847, A1120, H⟩ := H
  (try dsimp only at H)
  have A112 := Aside0.mk A1120
  clear A1120
  replace H := Option.bind_eq_some_iff.mp H
  obtain ⟨t848, A1130, H⟩ := H
  (try dsimp only at H)
  have A113 := Aside0.mk A1130
  clear A1130
  have HT := Option.some.inj H
  refine start_ (n := 81) (S := fun w' => w'.cell? ⟨gb732, 0, none⟩ = some (.int .i64 t720) ∧ w'.cell? ⟨gb732, 1, none⟩ = some (.int .i64 t721) ∧ w'.cell? ⟨gb732, 2, none⟩ = some (.int .i64 t722) ∧ w'.cell? ⟨gb732, 3, none⟩ = some (.slice Ao43 t723.length co43) ∧ w'.cell? ⟨gb732, 4, none⟩ = some (.int .i64 t726) ∧ w'.cell? ⟨gb732, 5, none⟩ = some (.string t727) ∧ w'.cell? ⟨gb732, 6, none⟩ = some (.string t728) ∧ w'.cell? ⟨gb732, 7, none⟩ = some (.int .i64 t729) ∧ w'.cell? ⟨gb732, 8, none⟩ = some (.int .i64 t730) ∧ w'.cell? ⟨gb732, 9, none⟩ = some (.int .i64 t731) ∧ w'.cell? ⟨gb749, 0, none⟩ = some (.int .i64 t735) ∧ w'.cell? ⟨gb749, 1, none⟩ = some (.int .i64 t736) ∧ w'.cell? ⟨gb749, 2, none⟩ = some (.int .i64 t737) ∧ w'.cell? ⟨gb749, 3, none⟩ = some (.slice Ao49 t738.length co49) ∧ w'.cell? ⟨gb749, 4, none⟩ = some (.int .i64 t741) ∧ w'.cell? ⟨gb749, 5, none⟩ = some (.string t742) ∧ w'.cell? ⟨gb749, 6, none⟩ = some (.string t743) ∧ w'.cell? ⟨gb749, 7, none⟩ = some (.int .i64 t744) ∧ w'.cell? ⟨gb749, 8, none⟩ = some (.int .i64 t745) ∧ w'.cell? ⟨gb749, 9, none⟩ = some (.int .i64 t746) ∧ w'.cell? ⟨gb766, 0, none⟩ = some (.int .i64 t752) ∧ w'.cell? ⟨gb766, 1, none⟩ = some (.int .i64 t753) ∧ w'.cell? ⟨gb766, 2, none⟩ = some (.int .i64 t754) ∧ w'.cell? ⟨gb766, 3, none⟩ = some (.slice Ao56 t755.length co56) ∧ w'.cell? ⟨gb766, 4, none⟩ = some (.int .i64 t758) ∧ w'.cell? ⟨gb766, 5, none⟩ = some (.string t759) ∧ w'.cell? ⟨gb766, 6, none⟩ = some (.string t760) ∧ w'.cell? ⟨gb766, 7, none⟩ = some (.int .i64 t761) ∧ w'.cell? ⟨gb766, 8, none⟩ = some (.int .i64 t762) ∧ w'.cell? ⟨gb766, 9, none⟩ = some (.int .i64 t763) ∧ w'.cell? ⟨gb781, 0, none⟩ = some (.int .i64 t767) ∧ w'.cell? ⟨gb781, 1, none⟩ = some (.int .i64 t768) ∧ w'.cell? ⟨gb781, 2, none⟩ = some (.int .i64 t769) ∧ w'.cell? ⟨gb781, 3, none⟩ = some (.slice Ao63 t770.length co63) ∧ w'.cell? ⟨gb781, 4, none⟩ = some (.int .i64 t773) ∧ w'.cell? ⟨gb781, 5, none⟩ = some (.string t774) ∧ w'.cell? ⟨gb781, 6, none⟩ = some (.string t775) ∧ w'.cell? ⟨gb781, 7, none⟩ = some (.int .i64 t776) ∧ w'.cell? ⟨gb781, 8, none⟩ = some (.int .i64 t777) ∧ w'.cell? ⟨gb781, 9, none⟩ = some (.int .i64 t778) ∧ w'.cell? ⟨gb806, 0, none⟩ = some (.int .i64 t782) ∧ w'.cell? ⟨gb806, 1, none⟩ = some (.int .i64 t783) ∧ w'.cell? ⟨gb806, 2, none⟩ = some (.int .i64 t784) ∧ w'.cell? ⟨gb806, 3, none⟩ = some (.slice Ao73 t785.length co73) ∧ w'.cell? ⟨gb806, 4, none⟩ = some (.int .i64 t788) ∧ w'.cell? ⟨gb806, 5, none⟩ = some (.string t789) ∧ w'.cell? ⟨gb806, 6, none⟩ = some (.string t790) ∧ w'.cell? ⟨gb806, 7, none⟩ = some (.int .i64 t791) ∧ w'.cell? ⟨gb806, 8, none⟩ = some (.int .i64 t792) ∧ w'.cell? ⟨gb806, 9, none⟩ = some (.int .i64 t793) ∧ w'.cell? ⟨gb807, 0, none⟩ = some (.int .i64 t794) ∧ w'.cell? ⟨gb807, 1, none⟩ = some (.int .i64 t795) ∧ w'.cell? ⟨gb807, 2, none⟩ = some (.int .i64 t796) ∧ w'.cell? ⟨gb807, 3, none⟩ = some (.slice Ao79 t797.length co79) ∧ w'.cell? ⟨gb807, 4, none⟩ = some (.int .i64 t800) ∧ w'.cell? ⟨gb807, 5, none⟩ = some (.string t801) ∧ w'.cell? ⟨gb807, 6, none⟩ = some (.string t802) ∧ w'.cell? ⟨gb807, 7, none⟩ = some (.int .i64 t803) ∧ w'.cell? ⟨gb807, 8, none⟩ = some (.int .i64 t804) ∧ w'.cell? ⟨gb807, 9, none⟩ = some (.int .i64 t805) ∧ w'.cell? ⟨gb832, 0, none⟩ = some (.int .i64 t808) ∧ w'.cell? ⟨gb832, 1, none⟩ = some (.int .i64 t809) ∧ w'.cell? ⟨gb832, 2, none⟩ = some (.int .i64 t810) ∧ w'.cell? ⟨gb832, 3, none⟩ = some (.slice Ao91 t811.length co91) ∧ w'.cell? ⟨gb832, 4, none⟩ = some (.int .i64 t814) ∧ w'.cell? ⟨gb832, 5, none⟩ = some (.string t815) ∧ w'.cell? ⟨gb832, 6, none⟩ = some (.string t816) ∧ w'.cell? ⟨gb832, 7, none⟩ = some (.int .i64 t817) ∧ w'.cell? ⟨gb832, 8, none⟩ = some (.int .i64 t818) ∧ w'.cell? ⟨gb832, 9, none⟩ = some (.int .i64 t819) ∧ w'.cell? ⟨gb833, 0, none⟩ = some (.int .i64 t820) ∧ w'.cell? ⟨gb833, 1, none⟩ = some (.int .i64 t821) ∧ w'.cell? ⟨gb833, 2, none⟩ = some (.int .i64 t822) ∧ w'.cell? ⟨gb833, 3, none⟩ = some (.slice Ao99 t823.length co99) ∧ w'.cell? ⟨gb833, 4, none⟩ = some (.int .i64 t826) ∧ w'.cell? ⟨gb833, 5, none⟩ = some (.string t827) ∧ w'.cell? ⟨gb833, 6, none⟩ = some (.string t828) ∧ w'.cell? ⟨gb833, 7, none⟩ = some (.int .i64 t829) ∧ w'.cell? ⟨gb833, 8, none⟩ = some (.int .i64 t830) ∧ w'.cell? ⟨gb833, 9, none⟩ = some (.int .i64 t831)) (ds := []) mk22_0 z22_64 rfl rfl (jn10 BK732 (jn10 BK749 (jn10 BK766 (jn10 BK781 (jn10 BK806 (jn10 BK807 (jn10 BK832 (ln10 BK833)))))))) (fun hHeld => ?_); refine with_tabW laws_FnActs.tab12 laws_FnActs.bits12 (fun HT_ HW_ => ?_)
  generalize w100.drew = w175 at HO725 HO740 HO757 HO772 HO787 HO799 HO813 HO825 BK732 BK749 BK766 BK781 BK806 BK807 BK832 BK833 HB hHeld ⊢
  refine p_ (i := 0) (N := some 70) mk22_1 ?_
  refine t_ (i := 1) (N := some 71) mk22_2 hHeld ?_
  refine o_ (i := 2) (N := some 72) mk22_3 (fun K hK => ?_)
  refine goes_ Try.func16 z22_64 rfl #[.agg #[.int .i64 t720, .int .i64 t721, .int .i64 t722, .slice Ao43 t723.length co43, .int .i64 t726, .string t727, .string t728, .int .i64 t729, .int .i64 t730, .int .i64 t731]] (by rfl) rfl rfl z22_18 ?_
  with_reducible refine (spec_ActOk.calls k t720 t721 t722 _ _ t723 t726 t727 t728 t729 t730 t731 t835 _ ?side1 ?side2 A15.out).mono ?_
  (case side1 => exact z22_101)
  (case side2 => exact (Kd.R_reads' HO725.out).2.1)
  rintro e w176 ⟨rfl, hb⟩
  refine ⟨_, rfl, ?_⟩
  replace HO725 := Aside0.mk (Kd.R_below z22_16 hb)
  replace HO740 := Aside0.mk (Kd.R_below z22_19 hb)
  replace HO757 := Aside0.mk (Kd.R_below z22_22 hb)
  replace HO772 := Aside0.mk (Kd.R_below z22_23 hb)
  replace HO787 := Aside0.mk (Kd.R_below z22_27 hb)
  replace HO799 := Aside0.mk (Kd.R_below z22_26 hb)
  replace HO813 := Aside0.mk (Kd.R_below z22_35 hb)
  replace HO825 := Aside0.mk (Kd.R_below z22_34 hb)
  replace BK732 := bb_ BK732 z22_1 hb
  replace BK749 := bb_ BK749 z22_2 hb
  replace BK766 := bb_ BK766 z22_3 hb
  replace BK781 := bb_ BK781 z22_4 hb
  replace BK806 := bb_ BK806 z22_17 hb
  replace BK807 := bb_ BK807 z22_21 hb
  replace BK832 := bb_ BK832 z22_24 hb
  replace BK833 := bb_ BK833 z22_61 hb
  replace HB := Aside0.mk (below_step z22_0 hb)
  (try clear hb)
  (try clear hb2)
  (try clear hk)
  (try clear hi)
  refine hK.out _ _ (jn10 BK732 (jn10 BK749 (jn10 BK766 (jn10 BK781 (jn10 BK806 (jn10 BK807 (jn10 BK832 (ln10 BK833)))))))) (fun hHeld => ?_)
  clear hK K
  refine n_ (N := some 72) ?_
  refine p_ (i := 3) (N := some 73) mk22_4 ?_
  refine p_ (i := 4) (N := some 74) mk22_5 ?_
  refine p_ (i := 7) (N := some 77) mk22_6 ?_
  refine t_ (i := 5) (N := some 75) mk22_7 hHeld ?_
  refine o_ (i := 6) (N := some 76) mk22_8 (fun K hK => ?_)
  refine goes_ Try.func17 z22_64 rfl #[.agg #[.int .i64 t720, .int .i64 t721, .int .i64 t722, .slice Ao43 t723.length co43, .int .i64 t726, .string t727, .string t728, .int .i64 t729, .int .i64 t730, .int .i64 t731]] (by rfl) rfl rfl z22_18 ?_
  with_reducible refine (impl_ActOk.calls k t720 t721 t722 _ _ t723 t726 t727 t728 t729 t730 t731 t836 _ ?side1 ?side2 A17.out).mono ?_
  (case side1 => exact z22_101)
  (case side2 => exact (Kd.R_reads' HO725.out).2.1)
  rintro e w177 ⟨rfl, hb⟩
  refine ⟨_, rfl, ?_⟩
  replace HO725 := Aside0.mk (Kd.R_below z22_16 hb)
  replace HO740 := Aside0.mk (Kd.R_below z22_19 hb)
  replace HO757 := Aside0.mk (Kd.R_below z22_22 hb)
  replace HO772 := Aside0.mk (Kd.R_below z22_23 hb)
  replace HO787 := Aside0.mk (Kd.R_below z22_27 hb)
  replace HO799 := Aside0.mk (Kd.R_below z22_26 hb)
  replace HO813 := Aside0.mk (Kd.R_below z22_35 hb)
  replace HO825 := Aside0.mk (Kd.R_below z22_34 hb)
  replace BK732 := bb_ BK732 z22_1 hb
  replace BK749 := bb_ BK749 z22_2 hb
  replace BK766 := bb_ BK766 z22_3 hb
  replace BK781 := bb_ BK781 z22_4 hb
  replace BK806 := bb_ BK806 z22_17 hb
  replace BK807 := bb_ BK807 z22_21 hb
  replace BK832 := bb_ BK832 z22_24 hb
  replace BK833 := bb_ BK833 z22_61 hb
  replace HB := Aside0.mk (below_step z22_0 hb)
  (try clear hb)
  (try clear hb2)
  (try clear hk)
  (try clear hi)
  refine hK.out _ _ (jn10 BK732 (jn10 BK749 (jn10 BK766 (jn10 BK781 (jn10 BK806 (jn10 BK807 (jn10 BK832 (ln10 BK833)))))))) (fun hHeld => ?_)
  clear hK K
  refine n_ (N := some 76) ?_
  refine p_ (i := 8) (N := some 78) mk22_9 ?_
  refine p_ (i := 9) (N := some 79) mk22_10 ?_
  refine p_ (i := 10) (N := some 80) mk22_11 ?_
  refine p_ (i := 11) (N := some 81) mk22_12 ?_
  refine p_ (i := 12) (N := some 82) mk22_13 ?_
  refine p_ (i := 13) (N := some 83) mk22_14 ?_
  refine p_ (i := 14) (N := some 84) mk22_15 ?_
  refine p_ (i := 15) (N := some 85) mk22_16 ?_
  refine t_ (i := 16) (N := some 86) mk22_17 hHeld ?_
  refine t_ (i := 17) (N := some 87) mk22_18 hHeld ?_
  refine o_ (i := 18) (N := some 88) mk22_19 (fun K hK => ?_)
  refine goes_ Try.func18 z22_64 rfl #[.agg #[.int .i64 t735, .int .i64 t736, .int .i64 t737, .slice Ao49 t738.length co49, .int .i64 t741, .string t742, .string t743, .int .i64 t744, .int .i64 t745, .int .i64 t746], .agg #[.int .i64 t720, .int .i64 t721, .int .i64 t722, .slice Ao43 t723.length co43, .int .i64 t726, .string t727, .string t728, .int .i64 t729, .int .i64 t730, .int .i64 t731]] (by rfl) rfl rfl z22_18 ?_
  with_reducible refine (spec_SameAct.calls k t735 t736 t737 _ _ t738 t741 t742 t743 t744 t745 t746 t720 t721 t722 _ _ t723 t726 t727 t728 t729 t730 t731 true _ ?side1 ?side2 ?side3 ?side4 A21.out).mono ?_
  (case side1 => exact z22_102)
  (case side2 => exact (Kd.R_reads' HO740.out).2.1)
  (case side3 => exact z22_101)
  (case side4 => exact (Kd.R_reads' HO725.out).2.1)
  rintro e w178 ⟨rfl, hb⟩
  refine ⟨_, rfl, ?_⟩
  replace HO725 := Aside0.mk (Kd.R_below z22_16 hb)
  replace HO740 := Aside0.mk (Kd.R_below z22_19 hb)
  replace HO757 := Aside0.mk (Kd.R_below z22_22 hb)
  replace HO772 := Aside0.mk (Kd.R_below z22_23 hb)
  replace HO787 := Aside0.mk (Kd.R_below z22_27 hb)
  replace HO799 := Aside0.mk (Kd.R_below z22_26 hb)
  replace HO813 := Aside0.mk (Kd.R_below z22_35 hb)
  replace HO825 := Aside0.mk (Kd.R_below z22_34 hb)
  replace BK732 := bb_ BK732 z22_1 hb
  replace BK749 := bb_ BK749 z22_2 hb
  replace BK766 := bb_ BK766 z22_3 hb
  replace BK781 := bb_ BK781 z22_4 hb
  replace BK806 := bb_ BK806 z22_17 hb
  replace BK807 := bb_ BK807 z22_21 hb
  replace BK832 := bb_ BK832 z22_24 hb
  replace BK833 := bb_ BK833 z22_61 hb
  replace HB := Aside0.mk (below_step z22_0 hb)
  (try clear hb)
  (try clear hb2)
  (try clear hk)
  (try clear hi)
  refine hK.out _ _ (jn10 BK732 (jn10 BK749 (jn10 BK766 (jn10 BK781 (jn10 BK806 (jn10 BK807 (jn10 BK832 (ln10 BK833)))))))) (fun hHeld => ?_)
  clear hK K
  refine n_ (N := some 88) ?_
  refine p_ (i := 19) (N := some 89) mk22_20 ?_
  refine p_ (i := 20) (N := some 90) mk22_21 ?_
  refine p_ (i := 21) (N := some 91) mk22_22 ?_
  refine p_ (i := 22) (N := some 92) mk22_23 ?_
  refine p_ (i := 23) (N := some 93) mk22_24 ?_
  refine p_ (i := 24) (N := some 94) mk22_25 ?_
  refine p_ (i := 25) (N := some 95) mk22_26 ?_
  refine p_ (i := 26) (N := some 96) mk22_27 ?_
  refine p_ (i := 27) (N := some 97) mk22_28 ?_
  refine p_ (i := 28) (N := some 98) mk22_29 ?_
  refine p_ (i := 29) (N := some 99) mk22_30 ?_
  refine p_ (i := 30) (N := some 100) mk22_31 ?_
  refine p_ (i := 31) (N := some 101) mk22_32 ?_
  refine p_ (i := 32) (N := some 102) mk22_33 ?_
  refine p_ (i := 33) (N := some 103) mk22_34 ?_
  refine p_ (i := 34) (N := some 104) mk22_35 ?_
  refine p_ (i := 35) (N := some 105) mk22_36 ?_
  refine p_ (i := 36) (N := some 106) mk22_37 ?_
  refine p_ (i := 37) (N := some 107) mk22_38 ?_
  refine p_ (i := 38) (N := some 108) mk22_39 ?_
  refine p_ (i := 39) (N := some 109) mk22_40 ?_
  refine t_ (i := 40) (N := some 110) mk22_41 hHeld ?_
  refine t_ (i := 41) (N := some 111) mk22_42 hHeld ?_
  refine o_ (i := 42) (N := some 112) mk22_43 (fun K hK => ?_)
  refine goes_ Try.func18 z22_64 rfl #[.agg #[.int .i64 t752, .int .i64 t753, .int .i64 t754, .slice Ao56 t755.length co56, .int .i64 t758, .string t759, .string t760, .int .i64 t761, .int .i64 t762, .int .i64 t763], .agg #[.int .i64 t767, .int .i64 t768, .int .i64 t769, .slice Ao63 t770.length co63, .int .i64 t773, .string t774, .string t775, .int .i64 t776, .int .i64 t777, .int .i64 t778]] (by rfl) rfl rfl z22_18 ?_
  with_reducible refine (spec_SameAct.calls k t752 t753 t754 _ _ t755 t758 t759 t760 t761 t762 t763 t767 t768 t769 _ _ t770 t773 t774 t775 t776 t777 t778 true _ ?side1 ?side2 ?side3 ?side4 A26.out).mono ?_
  (case side1 => exact z22_103)
  (case side2 => exact (Kd.R_reads' HO757.out).2.1)
  (case side3 => exact z22_104)
  (case side4 => exact (Kd.R_reads' HO772.out).2.1)
  rintro e w179 ⟨rfl, hb⟩
  refine ⟨_, rfl, ?_⟩
  replace HO725 := Aside0.mk (Kd.R_below z22_16 hb)
  replace HO740 := Aside0.mk (Kd.R_below z22_19 hb)
  replace HO757 := Aside0.mk (Kd.R_below z22_22 hb)
  replace HO772 := Aside0.mk (Kd.R_below z22_23 hb)
  replace HO787 := Aside0.mk (Kd.R_below z22_27 hb)
  replace HO799 := Aside0.mk (Kd.R_below z22_26 hb)
  replace HO813 := Aside0.mk (Kd.R_below z22_35 hb)
  replace HO825 := Aside0.mk (Kd.R_below z22_34 hb)
  replace BK732 := bb_ BK732 z22_1 hb
  replace BK749 := bb_ BK749 z22_2 hb
  replace BK766 := bb_ BK766 z22_3 hb
  replace BK781 := bb_ BK781 z22_4 hb
  replace BK806 := bb_ BK806 z22_17 hb
  replace BK807 := bb_ BK807 z22_21 hb
  replace BK832 := bb_ BK832 z22_24 hb
  replace BK833 := bb_ BK833 z22_61 hb
  replace HB := Aside0.mk (below_step z22_0 hb)
  (try clear hb)
  (try clear hb2)
  (try clear hk)
  (try clear hi)
  refine hK.out _ _ (jn10 BK732 (jn10 BK749 (jn10 BK766 (jn10 BK781 (jn10 BK806 (jn10 BK807 (jn10 BK832 (ln10 BK833)))))))) (fun hHeld => ?_)
  clear hK K
  refine n_ (N := some 112) ?_
  refine p_ (i := 43) (N := some 113) mk22_44 ?_
  refine p_ (i := 44) (N := some 114) mk22_45 ?_
  refine t_ (i := 45) (N := some 115) mk22_46 hHeld ?_
  refine t_ (i := 46) (N := some 116) mk22_47 hHeld ?_
  refine t_ (i := 48) (N := some 118) mk22_48 hHeld ?_
  refine t_ (i := 49) (N := some 119) mk22_49 hHeld ?_
  refine o_ (i := 47) (N := some 117) mk22_50 (fun K hK => ?_)
  refine goes_ Try.func19 z22_64 rfl #[.agg #[.int .i64 t782, .int .i64 t783, .int .i64 t784, .slice Ao73 t785.length co73, .int .i64 t788, .string t789, .string t790, .int .i64 t791, .int .i64 t792, .int .i64 t793], .agg #[.int .i64 t794, .int .i64 t795, .int .i64 t796, .slice Ao79 t797.length co79, .int .i64 t800, .string t801, .string t802, .int .i64 t803, .int .i64 t804, .int .i64 t805]] (by rfl) rfl rfl z22_18 ?_
  with_reducible refine (impl_SameAct.calls k t782 t783 t784 _ _ t785 t788 t789 t790 t791 t792 t793 t794 t795 t796 _ _ t797 t800 t801 t802 t803 t804 t805 t839 _ ?side1 ?side2 ?side3 ?side4 A28.out).mono ?_
  (case side1 => exact z22_105)
  (case side2 => exact (Kd.R_reads' HO787.out).2.1)
  (case side3 => exact z22_106)
  (case side4 => exact (Kd.R_reads' HO799.out).2.1)
  rintro e w180 ⟨rfl, hb⟩
  refine ⟨_, rfl, ?_⟩
  replace HO725 := Aside0.mk (Kd.R_below z22_16 hb)
  replace HO740 := Aside0.mk (Kd.R_below z22_19 hb)
  replace HO757 := Aside0.mk (Kd.R_below z22_22 hb)
  replace HO772 := Aside0.mk (Kd.R_below z22_23 hb)
  replace HO787 := Aside0.mk (Kd.R_below z22_27 hb)
  replace HO799 := Aside0.mk (Kd.R_below z22_26 hb)
  replace HO813 := Aside0.mk (Kd.R_below z22_35 hb)
  replace HO825 := Aside0.mk (Kd.R_below z22_34 hb)
  replace BK732 := bb_ BK732 z22_1 hb
  replace BK749 := bb_ BK749 z22_2 hb
  replace BK766 := bb_ BK766 z22_3 hb
  replace BK781 := bb_ BK781 z22_4 hb
  replace BK806 := bb_ BK806 z22_17 hb
  replace BK807 := bb_ BK807 z22_21 hb
  replace BK832 := bb_ BK832 z22_24 hb
  replace BK833 := bb_ BK833 z22_61 hb
  replace HB := Aside0.mk (below_step z22_0 hb)
  (try clear hb)
  (try clear hb2)
  (try clear hk)
  (try clear hi)
  refine hK.out _ _ (jn10 BK732 (jn10 BK749 (jn10 BK766 (jn10 BK781 (jn10 BK806 (jn10 BK807 (jn10 BK832 (ln10 BK833)))))))) (fun hHeld => ?_)
  clear hK K
  refine n_ (N := some 117) ?_
  refine o_ (i := 50) (N := some 120) mk22_51 (fun K hK => ?_)
  refine goes_ Try.func18 z22_64 rfl #[.agg #[.int .i64 t782, .int .i64 t783, .int .i64 t784, .slice Ao73 t785.length co73, .int .i64 t788, .string t789, .string t790, .int .i64 t791, .int .i64 t792, .int .i64 t793], .agg #[.int .i64 t794, .int .i64 t795, .int .i64 t796, .slice Ao79 t797.length co79, .int .i64 t800, .string t801, .string t802, .int .i64 t803, .int .i64 t804, .int .i64 t805]] (by rfl) rfl rfl z22_18 ?_
  with_reducible refine (spec_SameAct.calls k t782 t783 t784 _ _ t785 t788 t789 t790 t791 t792 t793 t794 t795 t796 _ _ t797 t800 t801 t802 t803 t804 t805 t840 _ ?side1 ?side2 ?side3 ?side4 A29.out).mono ?_
  (case side1 => exact z22_105)
  (case side2 => exact (Kd.R_reads' HO787.out).2.1)
  (case side3 => exact z22_106)
  (case side4 => exact (Kd.R_reads' HO799.out).2.1)
  rintro e w181 ⟨rfl, hb⟩
  refine ⟨_, rfl, ?_⟩
  replace HO725 := Aside0.mk (Kd.R_below z22_16 hb)
  replace HO740 := Aside0.mk (Kd.R_below z22_19 hb)
  replace HO757 := Aside0.mk (Kd.R_below z22_22 hb)
  replace HO772 := Aside0.mk (Kd.R_below z22_23 hb)
  replace HO787 := Aside0.mk (Kd.R_below z22_27 hb)
  replace HO799 := Aside0.mk (Kd.R_below z22_26 hb)
  replace HO813 := Aside0.mk (Kd.R_below z22_35 hb)
  replace HO825 := Aside0.mk (Kd.R_below z22_34 hb)
  replace BK732 := bb_ BK732 z22_1 hb
  replace BK749 := bb_ BK749 z22_2 hb
  replace BK766 := bb_ BK766 z22_3 hb
  replace BK781 := bb_ BK781 z22_4 hb
  replace BK806 := bb_ BK806 z22_17 hb
  replace BK807 := bb_ BK807 z22_21 hb
  replace BK832 := bb_ BK832 z22_24 hb
  replace BK833 := bb_ BK833 z22_61 hb
  replace HB := Aside0.mk (below_step z22_0 hb)
  (try clear hb)
  (try clear hb2)
  (try clear hk)
  (try clear hi)
  refine hK.out _ _ (jn10 BK732 (jn10 BK749 (jn10 BK766 (jn10 BK781 (jn10 BK806 (jn10 BK807 (jn10 BK832 (ln10 BK833)))))))) (fun hHeld => ?_)
  clear hK K
  refine n_ (N := some 120) ?_
  refine p_ (i := 51) (N := some 121) mk22_52 ?_
  refine p_ (i := 52) (N := some 122) mk22_53 ?_
  refine p_ (i := 53) (N := some 123) mk22_54 ?_
  refine t_ (i := 54) (N := some 124) mk22_55 hHeld ?_
  refine t_ (i := 55) (N := some 125) mk22_56 hHeld ?_
  refine t_ (i := 57) (N := some 127) mk22_57 hHeld ?_
  refine t_ (i := 58) (N := some 128) mk22_58 hHeld ?_
  refine o_ (i := 56) (N := some 126) mk22_59 (fun K hK => ?_)
  refine goes_ Try.func20 z22_64 rfl #[.agg #[.int .i64 t808, .int .i64 t809, .int .i64 t810, .slice Ao91 t811.length co91, .int .i64 t814, .string t815, .string t816, .int .i64 t817, .int .i64 t818, .int .i64 t819], .agg #[.int .i64 t820, .int .i64 t821, .int .i64 t822, .slice Ao99 t823.length co99, .int .i64 t826, .string t827, .string t828, .int .i64 t829, .int .i64 t830, .int .i64 t831]] (by rfl) rfl rfl z22_18 ?_
  with_reducible refine (impl_Later.calls t808 t809 t810 _ _ t811 t814 t815 t816 t817 t818 t819 t820 t821 t822 _ _ t823 t826 t827 t828 t829 t830 t831 t841 _ ?side1 ?side2 ?side3 ?side4 A31.out).mono ?_
  (case side1 => exact z22_107)
  (case side2 => exact (Kd.R_reads' HO813.out).2.1)
  (case side3 => exact z22_108)
  (case side4 => exact (Kd.R_reads' HO825.out).2.1)
  rintro e w182 ⟨rfl, hb⟩
  refine ⟨_, rfl, ?_⟩
  replace HO725 := Aside0.mk (Kd.R_below z22_16 hb)
  replace HO740 := Aside0.mk (Kd.R_below z22_19 hb)
  replace HO757 := Aside0.mk (Kd.R_below z22_22 hb)
  replace HO772 := Aside0.mk (Kd.R_below z22_23 hb)
  replace HO787 := Aside0.mk (Kd.R_below z22_27 hb)
  replace HO799 := Aside0.mk (Kd.R_below z22_26 hb)
  replace HO813 := Aside0.mk (Kd.R_below z22_35 hb)
  replace HO825 := Aside0.mk (Kd.R_below z22_34 hb)
  replace BK732 := bb_ BK732 z22_1 hb
  replace BK749 := bb_ BK749 z22_2 hb
  replace BK766 := bb_ BK766 z22_3 hb
  replace BK781 := bb_ BK781 z22_4 hb
  replace BK806 := bb_ BK806 z22_17 hb
  replace BK807 := bb_ BK807 z22_21 hb
  replace BK832 := bb_ BK832 z22_24 hb
  replace BK833 := bb_ BK833 z22_61 hb
  replace HB := Aside0.mk (below_step z22_0 hb)
  (try clear hb)
  (try clear hb2)
  (try clear hk)
  (try clear hi)
  refine hK.out _ _ (jn10 BK732 (jn10 BK749 (jn10 BK766 (jn10 BK781 (jn10 BK806 (jn10 BK807 (jn10 BK832 (ln10 BK833)))))))) (fun hHeld => ?_)
  clear hK K
  refine n_ (N := some 126) ?_
  refine o_ (i := 59) (N := some 129) mk22_60 (fun K hK => ?_)
  refine goes_ Try.func21 z22_64 rfl #[.agg #[.int .i64 t808, .int .i64 t809, .int .i64 t810, .slice Ao91 t811.length co91, .int .i64 t814, .string t815, .string t816, .int .i64 t817, .int .i64 t818, .int .i64 t819], .agg #[.int .i64 t820, .int .i64 t821, .int .i64 t822, .slice Ao99 t823.length co99, .int .i64 t826, .string t827, .string t828, .int .i64 t829, .int .i64 t830, .int .i64 t831]] (by rfl) rfl rfl z22_18 ?_
  with_reducible refine (spec_Later.calls t808 t809 t810 _ _ t811 t814 t815 t816 t817 t818 t819 t820 t821 t822 _ _ t823 t826 t827 t828 t829 t830 t831 t842 _ ?side1 ?side2 ?side3 ?side4 A32.out).mono ?_
  (case side1 => exact z22_107)
  (case side2 => exact (Kd.R_reads' HO813.out).2.1)
  (case side3 => exact z22_108)
  (case side4 => exact (Kd.R_reads' HO825.out).2.1)
  rintro e w183 ⟨rfl, hb⟩
  refine ⟨_, rfl, ?_⟩
  replace HO725 := Aside0.mk (Kd.R_below z22_16 hb)
  replace HO740 := Aside0.mk (Kd.R_below z22_19 hb)
  replace HO757 := Aside0.mk (Kd.R_below z22_22 hb)
  replace HO772 := Aside0.mk (Kd.R_below z22_23 hb)
  replace HO787 := Aside0.mk (Kd.R_below z22_27 hb)
  replace HO799 := Aside0.mk (Kd.R_below z22_26 hb)
  replace HO813 := Aside0.mk (Kd.R_below z22_35 hb)
  replace HO825 := Aside0.mk (Kd.R_below z22_34 hb)
  replace BK732 := bb_ BK732 z22_1 hb
  replace BK749 := bb_ BK749 z22_2 hb
  replace BK766 := bb_ BK766 z22_3 hb
  replace BK781 := bb_ BK781 z22_4 hb
  replace BK806 := bb_ BK806 z22_17 hb
  replace BK807 := bb_ BK807 z22_21 hb
  replace BK832 := bb_ BK832 z22_24 hb
  replace BK833 := bb_ BK833 z22_61 hb
  replace HB := Aside0.mk (below_step z22_0 hb)
  (try clear hb)
  (try clear hb2)
  (try clear hk)
  (try clear hi)
  refine hK.out _ _ (jn10 BK732 (jn10 BK749 (jn10 BK766 (jn10 BK781 (jn10 BK806 (jn10 BK807 (jn10 BK832 (ln10 BK833)))))))) (fun hHeld => ?_)
  clear hK K
  refine n_ (N := some 129) ?_
  refine p_ (i := 60) (N := some 130) mk22_61 ?_
  refine p_ (i := 61) (N := some 131) mk22_62 ?_
  refine p_ (i := 62) (N := some 132) mk22_63 ?_
  refine t_ (i := 63) (N := some 133) mk22_64 hHeld ?_
  refine t_ (i := 64) (N := some 134) mk22_65 hHeld ?_
  refine o_ (i := 65) (N := some 135) mk22_66 (fun K hK => ?_)
  refine goes_ Try.func20 z22_64 rfl #[.agg #[.int .i64 t808, .int .i64 t809, .int .i64 t810, .slice Ao91 t811.length co91, .int .i64 t814, .string t815, .string t816, .int .i64 t817, .int .i64 t818, .int .i64 t819], .agg #[.int .i64 t820, .int .i64 t821, .int .i64 t822, .slice Ao99 t823.length co99, .int .i64 t826, .string t827, .string t828, .int .i64 t829, .int .i64 t830, .int .i64 t831]] (by rfl) rfl rfl z22_18 ?_
  with_reducible refine (impl_Later.calls t808 t809 t810 _ _ t811 t814 t815 t816 t817 t818 t819 t820 t821 t822 _ _ t823 t826 t827 t828 t829 t830 t831 false _ ?side1 ?side2 ?side3 ?side4 A34.out).mono ?_
  (case side1 => exact z22_107)
  (case side2 => exact (Kd.R_reads' HO813.out).2.1)
  (case side3 => exact z22_108)
  (case side4 => exact (Kd.R_reads' HO825.out).2.1)
  rintro e w184 ⟨rfl, hb⟩
  refine ⟨_, rfl, ?_⟩
  replace HO725 := Aside0.mk (Kd.R_below z22_16 hb)
  replace HO740 := Aside0.mk (Kd.R_below z22_19 hb)
  replace HO757 := Aside0.mk (Kd.R_below z22_22 hb)
  replace HO772 := Aside0.mk (Kd.R_below z22_23 hb)
  replace HO787 := Aside0.mk (Kd.R_below z22_27 hb)
  replace HO799 := Aside0.mk (Kd.R_below z22_26 hb)
  replace HO813 := Aside0.mk (Kd.R_below z22_35 hb)
  replace HO825 := Aside0.mk (Kd.R_below z22_34 hb)
  replace BK732 := bb_ BK732 z22_1 hb
  replace BK749 := bb_ BK749 z22_2 hb
  replace BK766 := bb_ BK766 z22_3 hb
  replace BK781 := bb_ BK781 z22_4 hb
  replace BK806 := bb_ BK806 z22_17 hb
  replace BK807 := bb_ BK807 z22_21 hb
  replace BK832 := bb_ BK832 z22_24 hb
  replace BK833 := bb_ BK833 z22_61 hb
  replace HB := Aside0.mk (below_step z22_0 hb)
  (try clear hb)
  (try clear hb2)
  (try clear hk)
  (try clear hi)
  refine hK.out _ _ (jn10 BK732 (jn10 BK749 (jn10 BK766 (jn10 BK781 (jn10 BK806 (jn10 BK807 (jn10 BK832 (ln10 BK833)))))))) (fun hHeld => ?_)
  clear hK K
  refine n_ (N := some 135) ?_
  refine p_ (i := 66) (N := some 136) mk22_67 ?_
  refine u_ (i := 67) (N := some 137) mk22_68 ?_
  refine u_ (i := 68) (N := some 138) mk22_69 ?_
  refine u_ (i := 69) (N := some 139) mk22_70 ?_
  refine p_ (i := 70) (N := some 140) mk22_71 ?_
  refine p_ (i := 71) (N := some 141) mk22_72 ?_
  refine p_ (i := 72) (N := some 142) mk22_73 ?_
  refine p_ (i := 73) (N := some 143) mk22_74 ?_
  refine p_ (i := 74) (N := some 144) mk22_75 ?_
  refine p_ (i := 76) (N := some 146) mk22_76 ?_
  refine o_ (i := 75) (N := some 145) mk22_77 (fun K hK => ?_)
  refine goes_ Try.func22 z22_64 rfl #[.string t834] (by rfl) rfl rfl z22_18 ?_
  with_reducible refine (impl_NameOk.calls k t834 t847 _ A112.out).mono ?_
  rintro e w' ⟨rfl, ⟨nd, rfl⟩⟩
  refine ⟨_, rfl, ?_⟩
  refine hK.out _ _ (jn10 BK732 (jn10 BK749 (jn10 BK766 (jn10 BK781 (jn10 BK806 (jn10 BK807 (jn10 BK832 (ln10 BK833)))))))) (fun hHeld => ?_)
  clear hK K
  refine n_ (N := some 145) ?_
  refine o_ (i := 77) (N := some 147) mk22_78 (fun K hK => ?_)
  refine goes_ Try.func23 z22_64 rfl #[.string t834] (by rfl) rfl rfl z22_18 ?_
  with_reducible refine (spec_NameOk.calls k t834 t848 _ A113.out).mono ?_
  rintro e w' ⟨rfl, ⟨nd, rfl⟩⟩
  refine ⟨_, rfl, ?_⟩
  refine hK.out _ _ (jn10 BK732 (jn10 BK749 (jn10 BK766 (jn10 BK781 (jn10 BK806 (jn10 BK807 (jn10 BK832 (ln10 BK833)))))))) (fun hHeld => ?_)
  clear hK K
  refine n_ (N := some 147) ?_
  refine p_ (i := 78) (N := some 148) mk22_79 ?_
  refine p_ (i := 79) (N := some 149) mk22_80 ?_
  refine p_ (i := 80) (N := some 2) mk22_81 ?_
  refine done_ (done_of HT_.out z22_64) ?_
  try go_wp2
  go_ret
  exact ⟨z22_99, z22_0⟩
 subst c35
 rw [if_pos rfl] at H
 replace H := Option.bind_eq_some_iff.mp H
 obtain ⟨t844, A360, H⟩ := H
 (try dsimp only at H)
 have A36 := Aside0.mk A360
 clear A360
 by_cases c37 : t844 = true
 ·
  subst c37
  rw [if_pos rfl] at H
  exact absurd H (by simp)
 replace c37 := Bool.eq_false_iff.mpr c37
 subst c37
 rw [if_neg (show ¬ (false = true) by decide)] at H
 replace H := Option.bind_eq_some_iff.mp H
 obtain ⟨t845, A380, H⟩ := H
 (try dsimp only at H)
 have A38 := Aside0.mk A380
 clear A380
 replace H := Option.bind_eq_some_iff.mp H
 obtain ⟨t846, A390, H⟩ := H
 (try dsimp only at H)
 have A39 := Aside0.mk A390
 clear A390
 have HT := Option.some.inj H
 refine start_ (n := 81) (S := fun w' => w'.cell? ⟨gb732, 0, none⟩ = some (.int .i64 t720) ∧ w'.cell? ⟨gb732, 1, none⟩ = some (.int .i64 t721) ∧ w'.cell? ⟨gb732, 2, none⟩ = some (.int .i64 t722) ∧ w'.cell? ⟨gb732, 3, none⟩ = some (.slice Ao43 t723.length co43) ∧ w'.cell? ⟨gb732, 4, none⟩ = some (.int .i64 t726) ∧ w'.cell? ⟨gb732, 5, none⟩ = some (.string t727) ∧ w'.cell? ⟨gb732, 6, none⟩ = some (.string t728) ∧ w'.cell? ⟨gb732, 7, none⟩ = some (.int .i64 t729) ∧ w'.cell? ⟨gb732, 8, none⟩ = some (.int .i64 t730) ∧ w'.cell? ⟨gb732, 9, none⟩ = some (.int .i64 t731) ∧ w'.cell? ⟨gb749, 0, none⟩ = some (.int .i64 t735) ∧ w'.cell? ⟨gb749, 1, none⟩ = some (.int .i64 t736) ∧ w'.cell? ⟨gb749, 2, none⟩ = some (.int .i64 t737) ∧ w'.cell? ⟨gb749, 3, none⟩ = some (.slice Ao49 t738.length co49) ∧ w'.cell? ⟨gb749, 4, none⟩ = some (.int .i64 t741) ∧ w'.cell? ⟨gb749, 5, none⟩ = some (.string t742) ∧ w'.cell? ⟨gb749, 6, none⟩ = some (.string t743) ∧ w'.cell? ⟨gb749, 7, none⟩ = some (.int .i64 t744) ∧ w'.cell? ⟨gb749, 8, none⟩ = some (.int .i64 t745) ∧ w'.cell? ⟨gb749, 9, none⟩ = some (.int .i64 t746) ∧ w'.cell? ⟨gb766, 0, none⟩ = some (.int .i64 t752) ∧ w'.cell? ⟨gb766, 1, none⟩ = some (.int .i64 t753) ∧ w'.cell? ⟨gb766, 2, none⟩ = some (.int .i64 t754) ∧ w'.cell? ⟨gb766, 3, none⟩ = some (.slice Ao56 t755.length co56) ∧ w'.cell? ⟨gb766, 4, none⟩ = some (.int .i64 t758) ∧ w'.cell? ⟨gb766, 5, none⟩ = some (.string t759) ∧ w'.cell? ⟨gb766, 6, none⟩ = some (.string t760) ∧ w'.cell? ⟨gb766, 7, none⟩ = some (.int .i64 t761) ∧ w'.cell? ⟨gb766, 8, none⟩ = some (.int .i64 t762) ∧ w'.cell? ⟨gb766, 9, none⟩ = some (.int .i64 t763) ∧ w'.cell? ⟨gb781, 0, none⟩ = some (.int .i64 t767) ∧ w'.cell? ⟨gb781, 1, none⟩ = some (.int .i64 t768) ∧ w'.cell? ⟨gb781, 2, none⟩ = some (.int .i64 t769) ∧ w'.cell? ⟨gb781, 3, none⟩ = some (.slice Ao63 t770.length co63) ∧ w'.cell? ⟨gb781, 4, none⟩ = some (.int .i64 t773) ∧ w'.cell? ⟨gb781, 5, none⟩ = some (.string t774) ∧ w'.cell? ⟨gb781, 6, none⟩ = some (.string t775) ∧ w'.cell? ⟨gb781, 7, none⟩ = some (.int .i64 t776) ∧ w'.cell? ⟨gb781, 8, none⟩ = some (.int .i64 t777) ∧ w'.cell? ⟨gb781, 9, none⟩ = some (.int .i64 t778) ∧ w'.cell? ⟨gb806, 0, none⟩ = some (.int .i64 t782) ∧ w'.cell? ⟨gb806, 1, none⟩ = some (.int .i64 t783) ∧ w'.cell? ⟨gb806, 2, none⟩ = some (.int .i64 t784) ∧ w'.cell? ⟨gb806, 3, none⟩ = some (.slice Ao73 t785.length co73) ∧ w'.cell? ⟨gb806, 4, none⟩ = some (.int .i64 t788) ∧ w'.cell? ⟨gb806, 5, none⟩ = some (.string t789) ∧ w'.cell? ⟨gb806, 6, none⟩ = some (.string t790) ∧ w'.cell? ⟨gb806, 7, none⟩ = some (.int .i64 t791) ∧ w'.cell? ⟨gb806, 8, none⟩ = some (.int .i64 t792) ∧ w'.cell? ⟨gb806, 9, none⟩ = some (.int .i64 t793) ∧ w'.cell? ⟨gb807, 0, none⟩ = some (.int .i64 t794) ∧ w'.cell? ⟨gb807, 1, none⟩ = some (.int .i64 t795) ∧ w'.cell? ⟨gb807, 2, none⟩ = some (.int .i64 t796) ∧ w'.cell? ⟨gb807, 3, none⟩ = some (.slice Ao79 t797.length co79) ∧ w'.cell? ⟨gb807, 4, none⟩ = some (.int .i64 t800) ∧ w'.cell? ⟨gb807, 5, none⟩ = some (.string t801) ∧ w'.cell? ⟨gb807, 6, none⟩ = some (.string t802) ∧ w'.cell? ⟨gb807, 7, none⟩ = some (.int .i64 t803) ∧ w'.cell? ⟨gb807, 8, none⟩ = some (.int .i64 t804) ∧ w'.cell? ⟨gb807, 9, none⟩ = some (.int .i64 t805) ∧ w'.cell? ⟨gb832, 0, none⟩ = some (.int .i64 t808) ∧ w'.cell? ⟨gb832, 1, none⟩ = some (.int .i64 t809) ∧ w'.cell? ⟨gb832, 2, none⟩ = some (.int .i64 t810) ∧ w'.cell? ⟨gb832, 3, none⟩ = some (.slice Ao91 t811.length co91) ∧ w'.cell? ⟨gb832, 4, none⟩ = some (.int .i64 t814) ∧ w'.cell? ⟨gb832, 5, none⟩ = some (.string t815) ∧ w'.cell? ⟨gb832, 6, none⟩ = some (.string t816) ∧ w'.cell? ⟨gb832, 7, none⟩ = some (.int .i64 t817) ∧ w'.cell? ⟨gb832, 8, none⟩ = some (.int .i64 t818) ∧ w'.cell? ⟨gb832, 9, none⟩ = some (.int .i64 t819) ∧ w'.cell? ⟨gb833, 0, none⟩ = some (.int .i64 t820) ∧ w'.cell? ⟨gb833, 1, none⟩ = some (.int .i64 t821) ∧ w'.cell? ⟨gb833, 2, none⟩ = some (.int .i64 t822) ∧ w'.cell? ⟨gb833, 3, none⟩ = some (.slice Ao99 t823.length co99) ∧ w'.cell? ⟨gb833, 4, none⟩ = some (.int .i64 t826) ∧ w'.cell? ⟨gb833, 5, none⟩ = some (.string t827) ∧ w'.cell? ⟨gb833, 6, none⟩ = some (.string t828) ∧ w'.cell? ⟨gb833, 7, none⟩ = some (.int .i64 t829) ∧ w'.cell? ⟨gb833, 8, none⟩ = some (.int .i64 t830) ∧ w'.cell? ⟨gb833, 9, none⟩ = some (.int .i64 t831)) (ds := []) mk22_0 z22_64 rfl rfl (jn10 BK732 (jn10 BK749 (jn10 BK766 (jn10 BK781 (jn10 BK806 (jn10 BK807 (jn10 BK832 (ln10 BK833)))))))) (fun hHeld => ?_); refine with_tabW laws_FnActs.tab12 laws_FnActs.bits12 (fun HT_ HW_ => ?_)
 generalize w100.drew = w101 at HO725 HO740 HO757 HO772 HO787 HO799 HO813 HO825 BK732 BK749 BK766 BK781 BK806 BK807 BK832 BK833 HB hHeld ⊢
 refine p_ (i := 0) (N := some 70) mk22_1 ?_
 refine t_ (i := 1) (N := some 71) mk22_2 hHeld ?_
 refine o_ (i := 2) (N := some 72) mk22_3 (fun K hK => ?_)
 refine goes_ Try.func16 z22_64 rfl #[.agg #[.int .i64 t720, .int .i64 t721, .int .i64 t722, .slice Ao43 t723.length co43, .int .i64 t726, .string t727, .string t728, .int .i64 t729, .int .i64 t730, .int .i64 t731]] (by rfl) rfl rfl z22_18 ?_
 with_reducible refine (spec_ActOk.calls k t720 t721 t722 _ _ t723 t726 t727 t728 t729 t730 t731 t835 _ ?side1 ?side2 A15.out).mono ?_
 (case side1 => exact z22_101)
 (case side2 => exact (Kd.R_reads' HO725.out).2.1)
 rintro e w102 ⟨rfl, hb⟩
 refine ⟨_, rfl, ?_⟩
 replace HO725 := Aside0.mk (Kd.R_below z22_16 hb)
 replace HO740 := Aside0.mk (Kd.R_below z22_19 hb)
 replace HO757 := Aside0.mk (Kd.R_below z22_22 hb)
 replace HO772 := Aside0.mk (Kd.R_below z22_23 hb)
 replace HO787 := Aside0.mk (Kd.R_below z22_27 hb)
 replace HO799 := Aside0.mk (Kd.R_below z22_26 hb)
 replace HO813 := Aside0.mk (Kd.R_below z22_35 hb)
 replace HO825 := Aside0.mk (Kd.R_below z22_34 hb)
 replace BK732 := bb_ BK732 z22_1 hb
 replace BK749 := bb_ BK749 z22_2 hb
 replace BK766 := bb_ BK766 z22_3 hb
 replace BK781 := bb_ BK781 z22_4 hb
 replace BK806 := bb_ BK806 z22_17 hb
 replace BK807 := bb_ BK807 z22_21 hb
 replace BK832 := bb_ BK832 z22_24 hb
 replace BK833 := bb_ BK833 z22_61 hb
 replace HB := Aside0.mk (below_step z22_0 hb)
 (try clear hb)
 (try clear hb2)
 (try clear hk)
 (try clear hi)
 refine hK.out _ _ (jn10 BK732 (jn10 BK749 (jn10 BK766 (jn10 BK781 (jn10 BK806 (jn10 BK807 (jn10 BK832 (ln10 BK833)))))))) (fun hHeld => ?_)
 clear hK K
 refine n_ (N := some 72) ?_
 refine p_ (i := 3) (N := some 73) mk22_4 ?_
 refine p_ (i := 4) (N := some 74) mk22_5 ?_
 refine p_ (i := 7) (N := some 77) mk22_6 ?_
 refine t_ (i := 5) (N := some 75) mk22_7 hHeld ?_
 refine o_ (i := 6) (N := some 76) mk22_8 (fun K hK => ?_)
 refine goes_ Try.func17 z22_64 rfl #[.agg #[.int .i64 t720, .int .i64 t721, .int .i64 t722, .slice Ao43 t723.length co43, .int .i64 t726, .string t727, .string t728, .int .i64 t729, .int .i64 t730, .int .i64 t731]] (by rfl) rfl rfl z22_18 ?_
 with_reducible refine (impl_ActOk.calls k t720 t721 t722 _ _ t723 t726 t727 t728 t729 t730 t731 t836 _ ?side1 ?side2 A17.out).mono ?_
 (case side1 => exact z22_101)
 (case side2 => exact (Kd.R_reads' HO725.out).2.1)
 rintro e w103 ⟨rfl, hb⟩
 refine ⟨_, rfl, ?_⟩
 replace HO725 := Aside0.mk (Kd.R_below z22_16 hb)
 replace HO740 := Aside0.mk (Kd.R_below z22_19 hb)
 replace HO757 := Aside0.mk (Kd.R_below z22_22 hb)
 replace HO772 := Aside0.mk (Kd.R_below z22_23 hb)
 replace HO787 := Aside0.mk (Kd.R_below z22_27 hb)
 replace HO799 := Aside0.mk (Kd.R_below z22_26 hb)
 replace HO813 := Aside0.mk (Kd.R_below z22_35 hb)
 replace HO825 := Aside0.mk (Kd.R_below z22_34 hb)
 replace BK732 := bb_ BK732 z22_1 hb
 replace BK749 := bb_ BK749 z22_2 hb
 replace BK766 := bb_ BK766 z22_3 hb
 replace BK781 := bb_ BK781 z22_4 hb
 replace BK806 := bb_ BK806 z22_17 hb
 replace BK807 := bb_ BK807 z22_21 hb
 replace BK832 := bb_ BK832 z22_24 hb
 replace BK833 := bb_ BK833 z22_61 hb
 replace HB := Aside0.mk (below_step z22_0 hb)
 (try clear hb)
 (try clear hb2)
 (try clear hk)
 (try clear hi)
 refine hK.out _ _ (jn10 BK732 (jn10 BK749 (jn10 BK766 (jn10 BK781 (jn10 BK806 (jn10 BK807 (jn10 BK832 (ln10 BK833)))))))) (fun hHeld => ?_)
 clear hK K
 refine n_ (N := some 76) ?_
 refine p_ (i := 8) (N := some 78) mk22_9 ?_
 refine p_ (i := 9) (N := some 79) mk22_10 ?_
 refine p_ (i := 10) (N := some 80) mk22_11 ?_
 refine p_ (i := 11) (N := some 81) mk22_12 ?_
 refine p_ (i := 12) (N := some 82) mk22_13 ?_
 refine p_ (i := 13) (N := some 83) mk22_14 ?_
 refine p_ (i := 14) (N := some 84) mk22_15 ?_
 refine p_ (i := 15) (N := some 85) mk22_16 ?_
 refine t_ (i := 16) (N := some 86) mk22_17 hHeld ?_
 refine t_ (i := 17) (N := some 87) mk22_18 hHeld ?_
 refine o_ (i := 18) (N := some 88) mk22_19 (fun K hK => ?_)
 refine goes_ Try.func18 z22_64 rfl #[.agg #[.int .i64 t735, .int .i64 t736, .int .i64 t737, .slice Ao49 t738.length co49, .int .i64 t741, .string t742, .string t743, .int .i64 t744, .int .i64 t745, .int .i64 t746], .agg #[.int .i64 t720, .int .i64 t721, .int .i64 t722, .slice Ao43 t723.length co43, .int .i64 t726, .string t727, .string t728, .int .i64 t729, .int .i64 t730, .int .i64 t731]] (by rfl) rfl rfl z22_18 ?_
 with_reducible refine (spec_SameAct.calls k t735 t736 t737 _ _ t738 t741 t742 t743 t744 t745 t746 t720 t721 t722 _ _ t723 t726 t727 t728 t729 t730 t731 true _ ?side1 ?side2 ?side3 ?side4 A21.out).mono ?_
 (case side1 => exact z22_102)
 (case side2 => exact (Kd.R_reads' HO740.out).2.1)
 (case side3 => exact z22_101)
 (case side4 => exact (Kd.R_reads' HO725.out).2.1)
 rintro e w104 ⟨rfl, hb⟩
 refine ⟨_, rfl, ?_⟩
 replace HO725 := Aside0.mk (Kd.R_below z22_16 hb)
 replace HO740 := Aside0.mk (Kd.R_below z22_19 hb)
 replace HO757 := Aside0.mk (Kd.R_below z22_22 hb)
 replace HO772 := Aside0.mk (Kd.R_below z22_23 hb)
 replace HO787 := Aside0.mk (Kd.R_below z22_27 hb)
 replace HO799 := Aside0.mk (Kd.R_below z22_26 hb)
 replace HO813 := Aside0.mk (Kd.R_below z22_35 hb)
 replace HO825 := Aside0.mk (Kd.R_below z22_34 hb)
 replace BK732 := bb_ BK732 z22_1 hb
 replace BK749 := bb_ BK749 z22_2 hb
 replace BK766 := bb_ BK766 z22_3 hb
 replace BK781 := bb_ BK781 z22_4 hb
 replace BK806 := bb_ BK806 z22_17 hb
 replace BK807 := bb_ BK807 z22_21 hb
 replace BK832 := bb_ BK832 z22_24 hb
 replace BK833 := bb_ BK833 z22_61 hb
 replace HB := Aside0.mk (below_step z22_0 hb)
 (try clear hb)
 (try clear hb2)
 (try clear hk)
 (try clear hi)
 refine hK.out _ _ (jn10 BK732 (jn10 BK749 (jn10 BK766 (jn10 BK781 (jn10 BK806 (jn10 BK807 (jn10 BK832 (ln10 BK833)))))))) (fun hHeld => ?_)
 clear hK K
 refine n_ (N := some 88) ?_
 refine p_ (i := 19) (N := some 89) mk22_20 ?_
 refine p_ (i := 20) (N := some 90) mk22_21 ?_
 refine p_ (i := 21) (N := some 91) mk22_22 ?_
 refine p_ (i := 22) (N := some 92) mk22_23 ?_
 refine p_ (i := 23) (N := some 93) mk22_24 ?_
 refine p_ (i := 24) (N := some 94) mk22_25 ?_
 refine p_ (i := 25) (N := some 95) mk22_26 ?_
 refine p_ (i := 26) (N := some 96) mk22_27 ?_
 refine p_ (i := 27) (N := some 97) mk22_28 ?_
 refine p_ (i := 28) (N := some 98) mk22_29 ?_
 refine p_ (i := 29) (N := some 99) mk22_30 ?_
 refine p_ (i := 30) (N := some 100) mk22_31 ?_
 refine p_ (i := 31) (N := some 101) mk22_32 ?_
 refine p_ (i := 32) (N := some 102) mk22_33 ?_
 refine p_ (i := 33) (N := some 103) mk22_34 ?_
 refine p_ (i := 34) (N := some 104) mk22_35 ?_
 refine p_ (i := 35) (N := some 105) mk22_36 ?_
 refine p_ (i := 36) (N := some 106) mk22_37 ?_
 refine p_ (i := 37) (N := some 107) mk22_38 ?_
 refine p_ (i := 38) (N := some 108) mk22_39 ?_
 refine p_ (i := 39) (N := some 109) mk22_40 ?_
 refine t_ (i := 40) (N := some 110) mk22_41 hHeld ?_
 refine t_ (i := 41) (N := some 111) mk22_42 hHeld ?_
 refine o_ (i := 42) (N := some 112) mk22_43 (fun K hK => ?_)
 refine goes_ Try.func18 z22_64 rfl #[.agg #[.int .i64 t752, .int .i64 t753, .int .i64 t754, .slice Ao56 t755.length co56, .int .i64 t758, .string t759, .string t760, .int .i64 t761, .int .i64 t762, .int .i64 t763], .agg #[.int .i64 t767, .int .i64 t768, .int .i64 t769, .slice Ao63 t770.length co63, .int .i64 t773, .string t774, .string t775, .int .i64 t776, .int .i64 t777, .int .i64 t778]] (by rfl) rfl rfl z22_18 ?_
 with_reducible refine (spec_SameAct.calls k t752 t753 t754 _ _ t755 t758 t759 t760 t761 t762 t763 t767 t768 t769 _ _ t770 t773 t774 t775 t776 t777 t778 true _ ?side1 ?side2 ?side3 ?side4 A26.out).mono ?_
 (case side1 => exact z22_103)
 (case side2 => exact (Kd.R_reads' HO757.out).2.1)
 (case side3 => exact z22_104)
 (case side4 => exact (Kd.R_reads' HO772.out).2.1)
 rintro e w105 ⟨rfl, hb⟩
 refine ⟨_, rfl, ?_⟩
 replace HO725 := Aside0.mk (Kd.R_below z22_16 hb)
 replace HO740 := Aside0.mk (Kd.R_below z22_19 hb)
 replace HO757 := Aside0.mk (Kd.R_below z22_22 hb)
 replace HO772 := Aside0.mk (Kd.R_below z22_23 hb)
 replace HO787 := Aside0.mk (Kd.R_below z22_27 hb)
 replace HO799 := Aside0.mk (Kd.R_below z22_26 hb)
 replace HO813 := Aside0.mk (Kd.R_below z22_35 hb)
 replace HO825 := Aside0.mk (Kd.R_below z22_34 hb)
 replace BK732 := bb_ BK732 z22_1 hb
 replace BK749 := bb_ BK749 z22_2 hb
 replace BK766 := bb_ BK766 z22_3 hb
 replace BK781 := bb_ BK781 z22_4 hb
 replace BK806 := bb_ BK806 z22_17 hb
 replace BK807 := bb_ BK807 z22_21 hb
 replace BK832 := bb_ BK832 z22_24 hb
 replace BK833 := bb_ BK833 z22_61 hb
 replace HB := Aside0.mk (below_step z22_0 hb)
 (try clear hb)
 (try clear hb2)
 (try clear hk)
 (try clear hi)
 refine hK.out _ _ (jn10 BK732 (jn10 BK749 (jn10 BK766 (jn10 BK781 (jn10 BK806 (jn10 BK807 (jn10 BK832 (ln10 BK833)))))))) (fun hHeld => ?_)
 clear hK K
 refine n_ (N := some 112) ?_
 refine p_ (i := 43) (N := some 113) mk22_44 ?_
 refine p_ (i := 44) (N := some 114) mk22_45 ?_
 refine t_ (i := 45) (N := some 115) mk22_46 hHeld ?_
 refine t_ (i := 46) (N := some 116) mk22_47 hHeld ?_
 refine t_ (i := 48) (N := some 118) mk22_48 hHeld ?_
 refine t_ (i := 49) (N := some 119) mk22_49 hHeld ?_
 refine o_ (i := 47) (N := some 117) mk22_50 (fun K hK => ?_)
 refine goes_ Try.func19 z22_64 rfl #[.agg #[.int .i64 t782, .int .i64 t783, .int .i64 t784, .slice Ao73 t785.length co73, .int .i64 t788, .string t789, .string t790, .int .i64 t791, .int .i64 t792, .int .i64 t793], .agg #[.int .i64 t794, .int .i64 t795, .int .i64 t796, .slice Ao79 t797.length co79, .int .i64 t800, .string t801, .string t802, .int .i64 t803, .int .i64 t804, .int .i64 t805]] (by rfl) rfl rfl z22_18 ?_
 with_reducible refine (impl_SameAct.calls k t782 t783 t784 _ _ t785 t788 t789 t790 t791 t792 t793 t794 t795 t796 _ _ t797 t800 t801 t802 t803 t804 t805 t839 _ ?side1 ?side2 ?side3 ?side4 A28.out).mono ?_
 (case side1 => exact z22_105)
 (case side2 => exact (Kd.R_reads' HO787.out).2.1)
 (case side3 => exact z22_106)
 (case side4 => exact (Kd.R_reads' HO799.out).2.1)
 rintro e w106 ⟨rfl, hb⟩
 refine ⟨_, rfl, ?_⟩
 replace HO725 := Aside0.mk (Kd.R_below z22_16 hb)
 replace HO740 := Aside0.mk (Kd.R_below z22_19 hb)
 replace HO757 := Aside0.mk (Kd.R_below z22_22 hb)
 replace HO772 := Aside0.mk (Kd.R_below z22_23 hb)
 replace HO787 := Aside0.mk (Kd.R_below z22_27 hb)
 replace HO799 := Aside0.mk (Kd.R_below z22_26 hb)
 replace HO813 := Aside0.mk (Kd.R_below z22_35 hb)
 replace HO825 := Aside0.mk (Kd.R_below z22_34 hb)
 replace BK732 := bb_ BK732 z22_1 hb
 replace BK749 := bb_ BK749 z22_2 hb
 replace BK766 := bb_ BK766 z22_3 hb
 replace BK781 := bb_ BK781 z22_4 hb
 replace BK806 := bb_ BK806 z22_17 hb
 replace BK807 := bb_ BK807 z22_21 hb
 replace BK832 := bb_ BK832 z22_24 hb
 replace BK833 := bb_ BK833 z22_61 hb
 replace HB := Aside0.mk (below_step z22_0 hb)
 (try clear hb)
 (try clear hb2)
 (try clear hk)
 (try clear hi)
 refine hK.out _ _ (jn10 BK732 (jn10 BK749 (jn10 BK766 (jn10 BK781 (jn10 BK806 (jn10 BK807 (jn10 BK832 (ln10 BK833)))))))) (fun hHeld => ?_)
 clear hK K
 refine n_ (N := some 117) ?_
 refine o_ (i := 50) (N := some 120) mk22_51 (fun K hK => ?_)
 refine goes_ Try.func18 z22_64 rfl #[.agg #[.int .i64 t782, .int .i64 t783, .int .i64 t784, .slice Ao73 t785.length co73, .int .i64 t788, .string t789, .string t790, .int .i64 t791, .int .i64 t792, .int .i64 t793], .agg #[.int .i64 t794, .int .i64 t795, .int .i64 t796, .slice Ao79 t797.length co79, .int .i64 t800, .string t801, .string t802, .int .i64 t803, .int .i64 t804, .int .i64 t805]] (by rfl) rfl rfl z22_18 ?_
 with_reducible refine (spec_SameAct.calls k t782 t783 t784 _ _ t785 t788 t789 t790 t791 t792 t793 t794 t795 t796 _ _ t797 t800 t801 t802 t803 t804 t805 t840 _ ?side1 ?side2 ?side3 ?side4 A29.out).mono ?_
 (case side1 => exact z22_105)
 (case side2 => exact (Kd.R_reads' HO787.out).2.1)
 (case side3 => exact z22_106)
 (case side4 => exact (Kd.R_reads' HO799.out).2.1)
 rintro e w107 ⟨rfl, hb⟩
 refine ⟨_, rfl, ?_⟩
 replace HO725 := Aside0.mk (Kd.R_below z22_16 hb)
 replace HO740 := Aside0.mk (Kd.R_below z22_19 hb)
 replace HO757 := Aside0.mk (Kd.R_below z22_22 hb)
 replace HO772 := Aside0.mk (Kd.R_below z22_23 hb)
 replace HO787 := Aside0.mk (Kd.R_below z22_27 hb)
 replace HO799 := Aside0.mk (Kd.R_below z22_26 hb)
 replace HO813 := Aside0.mk (Kd.R_below z22_35 hb)
 replace HO825 := Aside0.mk (Kd.R_below z22_34 hb)
 replace BK732 := bb_ BK732 z22_1 hb
 replace BK749 := bb_ BK749 z22_2 hb
 replace BK766 := bb_ BK766 z22_3 hb
 replace BK781 := bb_ BK781 z22_4 hb
 replace BK806 := bb_ BK806 z22_17 hb
 replace BK807 := bb_ BK807 z22_21 hb
 replace BK832 := bb_ BK832 z22_24 hb
 replace BK833 := bb_ BK833 z22_61 hb
 replace HB := Aside0.mk (below_step z22_0 hb)
 (try clear hb)
 (try clear hb2)
 (try clear hk)
 (try clear hi)
 refine hK.out _ _ (jn10 BK732 (jn10 BK749 (jn10 BK766 (jn10 BK781 (jn10 BK806 (jn10 BK807 (jn10 BK832 (ln10 BK833)))))))) (fun hHeld => ?_)
 clear hK K
 refine n_ (N := some 120) ?_
 refine p_ (i := 51) (N := some 121) mk22_52 ?_
 refine p_ (i := 52) (N := some 122) mk22_53 ?_
 refine p_ (i := 53) (N := some 123) mk22_54 ?_
 refine t_ (i := 54) (N := some 124) mk22_55 hHeld ?_
 refine t_ (i := 55) (N := some 125) mk22_56 hHeld ?_
 refine t_ (i := 57) (N := some 127) mk22_57 hHeld ?_
 refine t_ (i := 58) (N := some 128) mk22_58 hHeld ?_
 refine o_ (i := 56) (N := some 126) mk22_59 (fun K hK => ?_)
 refine goes_ Try.func20 z22_64 rfl #[.agg #[.int .i64 t808, .int .i64 t809, .int .i64 t810, .slice Ao91 t811.length co91, .int .i64 t814, .string t815, .string t816, .int .i64 t817, .int .i64 t818, .int .i64 t819], .agg #[.int .i64 t820, .int .i64 t821, .int .i64 t822, .slice Ao99 t823.length co99, .int .i64 t826, .string t827, .string t828, .int .i64 t829, .int .i64 t830, .int .i64 t831]] (by rfl) rfl rfl z22_18 ?_
 with_reducible refine (impl_Later.calls t808 t809 t810 _ _ t811 t814 t815 t816 t817 t818 t819 t820 t821 t822 _ _ t823 t826 t827 t828 t829 t830 t831 t841 _ ?side1 ?side2 ?side3 ?side4 A31.out).mono ?_
 (case side1 => exact z22_107)
 (case side2 => exact (Kd.R_reads' HO813.out).2.1)
 (case side3 => exact z22_108)
 (case side4 => exact (Kd.R_reads' HO825.out).2.1)
 rintro e w108 ⟨rfl, hb⟩
 refine ⟨_, rfl, ?_⟩
 replace HO725 := Aside0.mk (Kd.R_below z22_16 hb)
 replace HO740 := Aside0.mk (Kd.R_below z22_19 hb)
 replace HO757 := Aside0.mk (Kd.R_below z22_22 hb)
 replace HO772 := Aside0.mk (Kd.R_below z22_23 hb)
 replace HO787 := Aside0.mk (Kd.R_below z22_27 hb)
 replace HO799 := Aside0.mk (Kd.R_below z22_26 hb)
 replace HO813 := Aside0.mk (Kd.R_below z22_35 hb)
 replace HO825 := Aside0.mk (Kd.R_below z22_34 hb)
 replace BK732 := bb_ BK732 z22_1 hb
 replace BK749 := bb_ BK749 z22_2 hb
 replace BK766 := bb_ BK766 z22_3 hb
 replace BK781 := bb_ BK781 z22_4 hb
 replace BK806 := bb_ BK806 z22_17 hb
 replace BK807 := bb_ BK807 z22_21 hb
 replace BK832 := bb_ BK832 z22_24 hb
 replace BK833 := bb_ BK833 z22_61 hb
 replace HB := Aside0.mk (below_step z22_0 hb)
 (try clear hb)
 (try clear hb2)
 (try clear hk)
 (try clear hi)
 refine hK.out _ _ (jn10 BK732 (jn10 BK749 (jn10 BK766 (jn10 BK781 (jn10 BK806 (jn10 BK807 (jn10 BK832 (ln10 BK833)))))))) (fun hHeld => ?_)
 clear hK K
 refine n_ (N := some 126) ?_
 refine o_ (i := 59) (N := some 129) mk22_60 (fun K hK => ?_)
 refine goes_ Try.func21 z22_64 rfl #[.agg #[.int .i64 t808, .int .i64 t809, .int .i64 t810, .slice Ao91 t811.length co91, .int .i64 t814, .string t815, .string t816, .int .i64 t817, .int .i64 t818, .int .i64 t819], .agg #[.int .i64 t820, .int .i64 t821, .int .i64 t822, .slice Ao99 t823.length co99, .int .i64 t826, .string t827, .string t828, .int .i64 t829, .int .i64 t830, .int .i64 t831]] (by rfl) rfl rfl z22_18 ?_
 with_reducible refine (spec_Later.calls t808 t809 t810 _ _ t811 t814 t815 t816 t817 t818 t819 t820 t821 t822 _ _ t823 t826 t827 t828 t829 t830 t831 t842 _ ?side1 ?side2 ?side3 ?side4 A32.out).mono ?_
 (case side1 => exact z22_107)
 (case side2 => exact (Kd.R_reads' HO813.out).2.1)
 (case side3 => exact z22_108)
 (case side4 => exact (Kd.R_reads' HO825.out).2.1)
 rintro e w109 ⟨rfl, hb⟩
 refine ⟨_, rfl, ?_⟩
 replace HO725 := Aside0.mk (Kd.R_below z22_16 hb)
 replace HO740 := Aside0.mk (Kd.R_below z22_19 hb)
 replace HO757 := Aside0.mk (Kd.R_below z22_22 hb)
 replace HO772 := Aside0.mk (Kd.R_below z22_23 hb)
 replace HO787 := Aside0.mk (Kd.R_below z22_27 hb)
 replace HO799 := Aside0.mk (Kd.R_below z22_26 hb)
 replace HO813 := Aside0.mk (Kd.R_below z22_35 hb)
 replace HO825 := Aside0.mk (Kd.R_below z22_34 hb)
 replace BK732 := bb_ BK732 z22_1 hb
 replace BK749 := bb_ BK749 z22_2 hb
 replace BK766 := bb_ BK766 z22_3 hb
 replace BK781 := bb_ BK781 z22_4 hb
 replace BK806 := bb_ BK806 z22_17 hb
 replace BK807 := bb_ BK807 z22_21 hb
 replace BK832 := bb_ BK832 z22_24 hb
 replace BK833 := bb_ BK833 z22_61 hb
 replace HB := Aside0.mk (below_step z22_0 hb)
 (try clear hb)
 (try clear hb2)
 (try clear hk)
 (try clear hi)
 refine hK.out _ _ (jn10 BK732 (jn10 BK749 (jn10 BK766 (jn10 BK781 (jn10 BK806 (jn10 BK807 (jn10 BK832 (ln10 BK833)))))))) (fun hHeld => ?_)
 clear hK K
 refine n_ (N := some 129) ?_
 refine p_ (i := 60) (N := some 130) mk22_61 ?_
 refine p_ (i := 61) (N := some 131) mk22_62 ?_
 refine p_ (i := 62) (N := some 132) mk22_63 ?_
 refine t_ (i := 63) (N := some 133) mk22_64 hHeld ?_
 refine t_ (i := 64) (N := some 134) mk22_65 hHeld ?_
 refine o_ (i := 65) (N := some 135) mk22_66 (fun K hK => ?_)
 refine goes_ Try.func20 z22_64 rfl #[.agg #[.int .i64 t808, .int .i64 t809, .int .i64 t810, .slice Ao91 t811.length co91, .int .i64 t814, .string t815, .string t816, .int .i64 t817, .int .i64 t818, .int .i64 t819], .agg #[.int .i64 t820, .int .i64 t821, .int .i64 t822, .slice Ao99 t823.length co99, .int .i64 t826, .string t827, .string t828, .int .i64 t829, .int .i64 t830, .int .i64 t831]] (by rfl) rfl rfl z22_18 ?_
 with_reducible refine (impl_Later.calls t808 t809 t810 _ _ t811 t814 t815 t816 t817 t818 t819 t820 t821 t822 _ _ t823 t826 t827 t828 t829 t830 t831 true _ ?side1 ?side2 ?side3 ?side4 A34.out).mono ?_
 (case side1 => exact z22_107)
 (case side2 => exact (Kd.R_reads' HO813.out).2.1)
 (case side3 => exact z22_108)
 (case side4 => exact (Kd.R_reads' HO825.out).2.1)
 rintro e w110 ⟨rfl, hb⟩
 refine ⟨_, rfl, ?_⟩
 replace HO725 := Aside0.mk (Kd.R_below z22_16 hb)
 replace HO740 := Aside0.mk (Kd.R_below z22_19 hb)
 replace HO757 := Aside0.mk (Kd.R_below z22_22 hb)
 replace HO772 := Aside0.mk (Kd.R_below z22_23 hb)
 replace HO787 := Aside0.mk (Kd.R_below z22_27 hb)
 replace HO799 := Aside0.mk (Kd.R_below z22_26 hb)
 replace HO813 := Aside0.mk (Kd.R_below z22_35 hb)
 replace HO825 := Aside0.mk (Kd.R_below z22_34 hb)
 replace BK732 := bb_ BK732 z22_1 hb
 replace BK749 := bb_ BK749 z22_2 hb
 replace BK766 := bb_ BK766 z22_3 hb
 replace BK781 := bb_ BK781 z22_4 hb
 replace BK806 := bb_ BK806 z22_17 hb
 replace BK807 := bb_ BK807 z22_21 hb
 replace BK832 := bb_ BK832 z22_24 hb
 replace BK833 := bb_ BK833 z22_61 hb
 replace HB := Aside0.mk (below_step z22_0 hb)
 (try clear hb)
 (try clear hb2)
 (try clear hk)
 (try clear hi)
 refine hK.out _ _ (jn10 BK732 (jn10 BK749 (jn10 BK766 (jn10 BK781 (jn10 BK806 (jn10 BK807 (jn10 BK832 (ln10 BK833)))))))) (fun hHeld => ?_)
 clear hK K
 refine n_ (N := some 135) ?_
 refine p_ (i := 66) (N := some 136) mk22_67 ?_
 refine t_ (i := 67) (N := some 137) mk22_68 hHeld ?_
 refine t_ (i := 68) (N := some 138) mk22_69 hHeld ?_
 refine o_ (i := 69) (N := some 139) mk22_70 (fun K hK => ?_)
 refine goes_ Try.func20 z22_64 rfl #[.agg #[.int .i64 t820, .int .i64 t821, .int .i64 t822, .slice Ao99 t823.length co99, .int .i64 t826, .string t827, .string t828, .int .i64 t829, .int .i64 t830, .int .i64 t831], .agg #[.int .i64 t808, .int .i64 t809, .int .i64 t810, .slice Ao91 t811.length co91, .int .i64 t814, .string t815, .string t816, .int .i64 t817, .int .i64 t818, .int .i64 t819]] (by rfl) rfl rfl z22_18 ?_
 with_reducible refine (impl_Later.calls t820 t821 t822 _ _ t823 t826 t827 t828 t829 t830 t831 t808 t809 t810 _ _ t811 t814 t815 t816 t817 t818 t819 false _ ?side1 ?side2 ?side3 ?side4 A36.out).mono ?_
 (case side1 => exact z22_108)
 (case side2 => exact (Kd.R_reads' HO825.out).2.1)
 (case side3 => exact z22_107)
 (case side4 => exact (Kd.R_reads' HO813.out).2.1)
 rintro e w111 ⟨rfl, hb⟩
 refine ⟨_, rfl, ?_⟩
 replace HO725 := Aside0.mk (Kd.R_below z22_16 hb)
 replace HO740 := Aside0.mk (Kd.R_below z22_19 hb)
 replace HO757 := Aside0.mk (Kd.R_below z22_22 hb)
 replace HO772 := Aside0.mk (Kd.R_below z22_23 hb)
 replace HO787 := Aside0.mk (Kd.R_below z22_27 hb)
 replace HO799 := Aside0.mk (Kd.R_below z22_26 hb)
 replace HO813 := Aside0.mk (Kd.R_below z22_35 hb)
 replace HO825 := Aside0.mk (Kd.R_below z22_34 hb)
 replace BK732 := bb_ BK732 z22_1 hb
 replace BK749 := bb_ BK749 z22_2 hb
 replace BK766 := bb_ BK766 z22_3 hb
 replace BK781 := bb_ BK781 z22_4 hb
 replace BK806 := bb_ BK806 z22_17 hb
 replace BK807 := bb_ BK807 z22_21 hb
 replace BK832 := bb_ BK832 z22_24 hb
 replace BK833 := bb_ BK833 z22_61 hb
 replace HB := Aside0.mk (below_step z22_0 hb)
 (try clear hb)
 (try clear hb2)
 (try clear hk)
 (try clear hi)
 refine hK.out _ _ (jn10 BK732 (jn10 BK749 (jn10 BK766 (jn10 BK781 (jn10 BK806 (jn10 BK807 (jn10 BK832 (ln10 BK833)))))))) (fun hHeld => ?_)
 clear hK K
 refine n_ (N := some 139) ?_
 refine p_ (i := 70) (N := some 140) mk22_71 ?_
 refine p_ (i := 71) (N := some 141) mk22_72 ?_
 refine p_ (i := 72) (N := some 142) mk22_73 ?_
 refine p_ (i := 73) (N := some 143) mk22_74 ?_
 refine p_ (i := 74) (N := some 144) mk22_75 ?_
 refine p_ (i := 76) (N := some 146) mk22_76 ?_
 refine o_ (i := 75) (N := some 145) mk22_77 (fun K hK => ?_)
 refine goes_ Try.func22 z22_64 rfl #[.string t834] (by rfl) rfl rfl z22_18 ?_
 with_reducible refine (impl_NameOk.calls k t834 t845 _ A38.out).mono ?_
 rintro e w' ⟨rfl, ⟨nd, rfl⟩⟩
 refine ⟨_, rfl, ?_⟩
 refine hK.out _ _ (jn10 BK732 (jn10 BK749 (jn10 BK766 (jn10 BK781 (jn10 BK806 (jn10 BK807 (jn10 BK832 (ln10 BK833)))))))) (fun hHeld => ?_)
 clear hK K
 refine n_ (N := some 145) ?_
 refine o_ (i := 77) (N := some 147) mk22_78 (fun K hK => ?_)
 refine goes_ Try.func23 z22_64 rfl #[.string t834] (by rfl) rfl rfl z22_18 ?_
 with_reducible refine (spec_NameOk.calls k t834 t846 _ A39.out).mono ?_
 rintro e w' ⟨rfl, ⟨nd, rfl⟩⟩
 refine ⟨_, rfl, ?_⟩
 refine hK.out _ _ (jn10 BK732 (jn10 BK749 (jn10 BK766 (jn10 BK781 (jn10 BK806 (jn10 BK807 (jn10 BK832 (ln10 BK833)))))))) (fun hHeld => ?_)
 clear hK K
 refine n_ (N := some 147) ?_
 refine p_ (i := 78) (N := some 148) mk22_79 ?_
 refine p_ (i := 79) (N := some 149) mk22_80 ?_
 refine p_ (i := 80) (N := some 2) mk22_81 ?_
 refine done_ (done_of HT_.out z22_64) ?_
 try go_wp2
 go_ret
 exact ⟨z22_99, z22_0⟩
end Go.Proofs.Ythajpckfodhhpaa.QRA
