/- What the functions behind RdAct compute, and that the program's calls come to just that. Written by a program of this session on the base of the kit's print. No condition. -/
import Derived.Test.YtmbjnblbbfbfjaaVFnExactReadActQRdActx0
import Derived.Test.YtmbjnblbbfbfjaaVFnExactReadActQRdActx8
import Derived.Test.YtmbjnblbbfbfjaaVFnExactReadActQRdActx13
import Derived.Test.YtmbjnblbbfbfjaaVFnExactReadActQRdActx14
namespace Go.Proofs.Ytmbjnblbbfbfjaa.QRdAct
open Go.RowKit Go.Proofs.YtmbjnblbbfbfjaaW.PrintWords Go.Proofs.YtmbjnblbbfbfjaaW.PrintLast Go.Proofs.YtmbjnblbbfbfjaaW.PrintMore
attribute [local go_sem] max2_int min2_int max_two min_two max_three min_three max_four min_four   -- for this text's walks alone
set_option linter.unusedVariables false
set_option linter.unusedSimpArgs false
theorem z15_24 {P : Prop} (h : P := by first | rfl | (simp; done) | (simp [*]; done)) : P := h
theorem z15_23 {P : Prop} (h : P := by (with_reducible repeat (first | apply Kd.R_alloc | apply Kd.R_drewN | apply Kd.R_drew)); exact Kd.R_mono HO402.out (fun _ hk => ⟨hk.1.2, hk.2⟩)) : P := h
theorem z15_22 {P : Prop} (h : P := by (with_reducible repeat (first | apply Kd.R_alloc | apply Kd.R_drewN | apply Kd.R_drew)); exact Kd.R_mono HO368.out (fun _ hk => by first | exact hk.2 | trivial)) : P := h
theorem z15_21 {P : Prop} (h : P := by (with_reducible repeat (first | apply Kd.R_alloc | apply Kd.R_drewN | apply Kd.R_drew)); exact Kd.R_mono HO383.out (fun _ hk => by first | exact hk.2 | trivial)) : P := h
theorem z15_20 {P : Prop} (h : P := by (with_reducible repeat (first | refine blk_drewN ?_ _ | refine blk_drew ?_ | refine blk_alloc ?_ _)); exact BK411.out) : P := h
theorem z15_19 {P : Prop} (h : P := by repeat (first | (with_reducible first | exact HB.out | apply below_alloc | apply pw_below_drewN | apply below_drew1 | refine below_set ?_ GE377.out) | exact HB.out)) : P := h
theorem z15_18 {P : Prop} (h : P := by repeat (first | (with_reducible first | exact HB.out | apply below_alloc | apply pw_below_drewN | apply below_drew1) | exact HB.out)) : P := h
theorem z15_17 {P : Prop} (h : P := by (with_reducible repeat (first | apply Kd.R_alloc | apply Kd.R_drewN | apply Kd.R_drew)); exact HO_378003.out) : P := h
theorem z15_16 {P : Prop} (h : P := by (with_reducible repeat (first | apply Kd.R_alloc | apply Kd.R_drewN | apply Kd.R_drew)); exact HO_393003.out) : P := h
theorem z15_15 {P : Prop} (h : P := by first | rfl | (simp only [List.map_toArray, List.map_cons, List.map_nil]; first | done | rfl)) : P := h
theorem z15_14 {P : Prop} (h : P := by (with_reducible repeat (first | apply Kd.R_alloc | apply Kd.R_drewN | apply Kd.R_drew)); exact (Kd.R_mono (Kd.R_far (p := ⟨gb377, 9, none⟩) (Kd.R_far (p := ⟨gb377, 8, none⟩) (Kd.R_far (p := ⟨gb377, 7, none⟩) (Kd.R_far (p := ⟨gb377, 6, none⟩) (Kd.R_far (p := ⟨gb377, 5, none⟩) (Kd.R_far (p := ⟨gb377, 4, none⟩) (Kd.R_far (p := ⟨gb377, 3, none⟩) (Kd.R_far (p := ⟨gb377, 2, none⟩) (Kd.R_far (p := ⟨gb377, 1, none⟩) (Kd.R_far (p := ⟨gb377, 0, none⟩) (Kd.R_types HO368.out BK377.out (by decide)) (fun _ hk => by first | exact hk.2 | trivial) (.int .i64 t363)) (fun _ hk => by first | exact hk.2 | trivial) (.int .i64 t364)) (fun _ hk => by first | exact hk.2 | trivial) (.int .i64 t365)) (fun _ hk => by first | exact hk.2 | trivial) (.slice Ao10 t366.length co10)) (fun _ hk => by first | exact hk.2 | trivial) (.int .i64 t369)) (fun _ hk => by first | exact hk.2 | trivial) (.string t370)) (fun _ hk => by first | exact hk.2 | trivial) (.string t371)) (fun _ hk => by first | exact hk.2 | trivial) (.int .i64 t372)) (fun _ hk => by first | exact hk.2 | trivial) (.int .i64 t373)) (fun _ hk => by first | exact hk.2 | trivial) (.int .i64 t374)) (fun _ h_ => h_.1))) : P := h
theorem z15_13 {P : Prop} (h : P := by (with_reducible repeat (first | refine blk_drewN ?_ _ | refine blk_drew ?_ | refine blk_alloc ?_ _)); exact BK392.out) : P := h
theorem z15_12 {P : Prop} (h : P := by repeat (first | (with_reducible first | exact HB.out | apply below_alloc | apply pw_below_drewN | apply below_drew1 | refine below_set ?_ GE377.out | refine below_set ?_ GE392.out | refine below_set ?_ GE411.out) | exact HB.out)) : P := h
theorem z15_11 {P : Prop} (h : P := by (with_reducible repeat (first | refine blk_drewN ?_ _ | refine blk_drew ?_ | refine blk_alloc ?_ _)); exact BK377.out) : P := h
theorem z15_10 {P : Prop} (h : P := by repeat (first | (with_reducible first | exact HB.out | apply below_alloc | apply pw_below_drewN | apply below_drew1 | refine below_set ?_ GE377.out | refine below_set ?_ GE392.out) | exact HB.out)) : P := h
theorem z15_9 {P : Prop} (h : P := by (with_reducible repeat (first | apply Kd.R_alloc | apply Kd.R_drewN | apply Kd.R_drew)); exact (Kd.R_mono (Kd.R_far (p := ⟨gb411, 9, none⟩) (Kd.R_far (p := ⟨gb411, 8, none⟩) (Kd.R_far (p := ⟨gb411, 7, none⟩) (Kd.R_far (p := ⟨gb411, 6, none⟩) (Kd.R_far (p := ⟨gb411, 5, none⟩) (Kd.R_far (p := ⟨gb411, 4, none⟩) (Kd.R_far (p := ⟨gb411, 3, none⟩) (Kd.R_far (p := ⟨gb411, 2, none⟩) (Kd.R_far (p := ⟨gb411, 1, none⟩) (Kd.R_far (p := ⟨gb411, 0, none⟩) (Kd.R_types HO_393003.out BK411.out (by decide)) (fun _ hk => by first | exact hk.2 | trivial) (.int .i64 t397)) (fun _ hk => by first | exact hk.2 | trivial) (.int .i64 t398)) (fun _ hk => by first | exact hk.2 | trivial) (.int .i64 t399)) (fun _ hk => by first | exact hk.2 | trivial) (.slice Ao48 t400.length co48)) (fun _ hk => by first | exact hk.2 | trivial) (.int .i64 t403)) (fun _ hk => by first | exact hk.2 | trivial) (.string t404)) (fun _ hk => by first | exact hk.2 | trivial) (.string t405)) (fun _ hk => by first | exact hk.2 | trivial) (.int .i64 t406)) (fun _ hk => by first | exact hk.2 | trivial) (.int .i64 t407)) (fun _ hk => by first | exact hk.2 | trivial) (.int .i64 t408)) (fun _ h_ => h_.1))) : P := h
theorem z15_8 {P : Prop} (h : P := by (with_reducible repeat (first | refine blk_drewN ?_ _ | refine blk_drew ?_ | refine blk_alloc ?_ _)); refine blk_far ?_ NB377_392.out _; (with_reducible repeat (first | refine blk_drewN ?_ _ | refine blk_drew ?_ | refine blk_alloc ?_ _)); refine blk_far ?_ NB377_392.out _; (with_reducible repeat (first | refine blk_drewN ?_ _ | refine blk_drew ?_ | refine blk_alloc ?_ _)); refine blk_far ?_ NB377_392.out _; (with_reducible repeat (first | refine blk_drewN ?_ _ | refine blk_drew ?_ | refine blk_alloc ?_ _)); refine blk_far ?_ NB377_392.out _; (with_reducible repeat (first | refine blk_drewN ?_ _ | refine blk_drew ?_ | refine blk_alloc ?_ _)); refine blk_far ?_ NB377_392.out _; (with_reducible repeat (first | refine blk_drewN ?_ _ | refine blk_drew ?_ | refine blk_alloc ?_ _)); refine blk_far ?_ NB377_392.out _; (with_reducible repeat (first | refine blk_drewN ?_ _ | refine blk_drew ?_ | refine blk_alloc ?_ _)); refine blk_far ?_ NB377_392.out _; (with_reducible repeat (first | refine blk_drewN ?_ _ | refine blk_drew ?_ | refine blk_alloc ?_ _)); refine blk_far ?_ NB377_392.out _; (with_reducible repeat (first | refine blk_drewN ?_ _ | refine blk_drew ?_ | refine blk_alloc ?_ _)); refine blk_far ?_ NB377_392.out _; (with_reducible repeat (first | refine blk_drewN ?_ _ | refine blk_drew ?_ | refine blk_alloc ?_ _)); refine blk_far ?_ NB377_392.out _; (with_reducible repeat (first | refine blk_drewN ?_ _ | refine blk_drew ?_ | refine blk_alloc ?_ _)); exact BK377.out) : P := h
theorem z15_7 {P : Prop} (h : P := by (with_reducible repeat (first | refine blk_drewN ?_ _ | refine blk_drew ?_ | refine blk_alloc ?_ _)); refine blk_far ?_ NB377_411.out _; (with_reducible repeat (first | refine blk_drewN ?_ _ | refine blk_drew ?_ | refine blk_alloc ?_ _)); refine blk_far ?_ NB377_411.out _; (with_reducible repeat (first | refine blk_drewN ?_ _ | refine blk_drew ?_ | refine blk_alloc ?_ _)); refine blk_far ?_ NB377_411.out _; (with_reducible repeat (first | refine blk_drewN ?_ _ | refine blk_drew ?_ | refine blk_alloc ?_ _)); refine blk_far ?_ NB377_411.out _; (with_reducible repeat (first | refine blk_drewN ?_ _ | refine blk_drew ?_ | refine blk_alloc ?_ _)); refine blk_far ?_ NB377_411.out _; (with_reducible repeat (first | refine blk_drewN ?_ _ | refine blk_drew ?_ | refine blk_alloc ?_ _)); refine blk_far ?_ NB377_411.out _; (with_reducible repeat (first | refine blk_drewN ?_ _ | refine blk_drew ?_ | refine blk_alloc ?_ _)); refine blk_far ?_ NB377_411.out _; (with_reducible repeat (first | refine blk_drewN ?_ _ | refine blk_drew ?_ | refine blk_alloc ?_ _)); refine blk_far ?_ NB377_411.out _; (with_reducible repeat (first | refine blk_drewN ?_ _ | refine blk_drew ?_ | refine blk_alloc ?_ _)); refine blk_far ?_ NB377_411.out _; (with_reducible repeat (first | refine blk_drewN ?_ _ | refine blk_drew ?_ | refine blk_alloc ?_ _)); refine blk_far ?_ NB377_411.out _; (with_reducible repeat (first | refine blk_drewN ?_ _ | refine blk_drew ?_ | refine blk_alloc ?_ _)); exact BK377.out) : P := h
theorem z15_6 {P : Prop} (h : P := by (with_reducible repeat (first | refine blk_drewN ?_ _ | refine blk_drew ?_ | refine blk_alloc ?_ _)); refine blk_far ?_ NB392_411.out _; (with_reducible repeat (first | refine blk_drewN ?_ _ | refine blk_drew ?_ | refine blk_alloc ?_ _)); refine blk_far ?_ NB392_411.out _; (with_reducible repeat (first | refine blk_drewN ?_ _ | refine blk_drew ?_ | refine blk_alloc ?_ _)); refine blk_far ?_ NB392_411.out _; (with_reducible repeat (first | refine blk_drewN ?_ _ | refine blk_drew ?_ | refine blk_alloc ?_ _)); refine blk_far ?_ NB392_411.out _; (with_reducible repeat (first | refine blk_drewN ?_ _ | refine blk_drew ?_ | refine blk_alloc ?_ _)); refine blk_far ?_ NB392_411.out _; (with_reducible repeat (first | refine blk_drewN ?_ _ | refine blk_drew ?_ | refine blk_alloc ?_ _)); refine blk_far ?_ NB392_411.out _; (with_reducible repeat (first | refine blk_drewN ?_ _ | refine blk_drew ?_ | refine blk_alloc ?_ _)); refine blk_far ?_ NB392_411.out _; (with_reducible repeat (first | refine blk_drewN ?_ _ | refine blk_drew ?_ | refine blk_alloc ?_ _)); refine blk_far ?_ NB392_411.out _; (with_reducible repeat (first | refine blk_drewN ?_ _ | refine blk_drew ?_ | refine blk_alloc ?_ _)); refine blk_far ?_ NB392_411.out _; (with_reducible repeat (first | refine blk_drewN ?_ _ | refine blk_drew ?_ | refine blk_alloc ?_ _)); refine blk_far ?_ NB392_411.out _; (with_reducible repeat (first | refine blk_drewN ?_ _ | refine blk_drew ?_ | refine blk_alloc ?_ _)); exact BK392.out) : P := h
theorem z15_5 {P : Prop} (h : P := by (with_reducible repeat (first | apply Kd.R_alloc | apply Kd.R_drewN | apply Kd.R_drew)); exact (Kd.R_mono (Kd.R_far (p := ⟨gb392, 9, none⟩) (Kd.R_far (p := ⟨gb392, 8, none⟩) (Kd.R_far (p := ⟨gb392, 7, none⟩) (Kd.R_far (p := ⟨gb392, 6, none⟩) (Kd.R_far (p := ⟨gb392, 5, none⟩) (Kd.R_far (p := ⟨gb392, 4, none⟩) (Kd.R_far (p := ⟨gb392, 3, none⟩) (Kd.R_far (p := ⟨gb392, 2, none⟩) (Kd.R_far (p := ⟨gb392, 1, none⟩) (Kd.R_far (p := ⟨gb392, 0, none⟩) (Kd.R_types HO368.out BK392.out (by decide)) (fun _ hk => by first | exact hk.2 | trivial) (.int .i64 t378)) (fun _ hk => by first | exact hk.2 | trivial) (.int .i64 t379)) (fun _ hk => by first | exact hk.2 | trivial) (.int .i64 t380)) (fun _ hk => by first | exact hk.2 | trivial) (.slice Ao15 t381.length co15)) (fun _ hk => by first | exact hk.2 | trivial) (.int .i64 t384)) (fun _ hk => by first | exact hk.2 | trivial) (.string t385)) (fun _ hk => by first | exact hk.2 | trivial) (.string t386)) (fun _ hk => by first | exact hk.2 | trivial) (.int .i64 t387)) (fun _ hk => by first | exact hk.2 | trivial) (.int .i64 t388)) (fun _ hk => by first | exact hk.2 | trivial) (.int .i64 t389)) (fun _ h_ => h_.1))) : P := h
theorem z15_4 {P : Prop} (h : P := by (with_reducible repeat (first | apply Kd.R_alloc | apply Kd.R_drewN | apply Kd.R_drew)); exact (Kd.R_mono (Kd.R_far (p := ⟨gb392, 9, none⟩) (Kd.R_far (p := ⟨gb392, 8, none⟩) (Kd.R_far (p := ⟨gb392, 7, none⟩) (Kd.R_far (p := ⟨gb392, 6, none⟩) (Kd.R_far (p := ⟨gb392, 5, none⟩) (Kd.R_far (p := ⟨gb392, 4, none⟩) (Kd.R_far (p := ⟨gb392, 3, none⟩) (Kd.R_far (p := ⟨gb392, 2, none⟩) (Kd.R_far (p := ⟨gb392, 1, none⟩) (Kd.R_far (p := ⟨gb392, 0, none⟩) (Kd.R_types HO383.out BK392.out (by decide)) (fun _ hk => by first | exact hk.2 | trivial) (.int .i64 t378)) (fun _ hk => by first | exact hk.2 | trivial) (.int .i64 t379)) (fun _ hk => by first | exact hk.2 | trivial) (.int .i64 t380)) (fun _ hk => by first | exact hk.2 | trivial) (.slice Ao15 t381.length co15)) (fun _ hk => by first | exact hk.2 | trivial) (.int .i64 t384)) (fun _ hk => by first | exact hk.2 | trivial) (.string t385)) (fun _ hk => by first | exact hk.2 | trivial) (.string t386)) (fun _ hk => by first | exact hk.2 | trivial) (.int .i64 t387)) (fun _ hk => by first | exact hk.2 | trivial) (.int .i64 t388)) (fun _ hk => by first | exact hk.2 | trivial) (.int .i64 t389)) (fun _ h_ => h_.1))) : P := h
theorem z15_3 {P : Prop} (h : P := by (with_reducible repeat (first | apply Kd.R_alloc | apply Kd.R_drewN | apply Kd.R_drew)); exact (Kd.R_mono (Kd.R_far (p := ⟨gb411, 9, none⟩) (Kd.R_far (p := ⟨gb411, 8, none⟩) (Kd.R_far (p := ⟨gb411, 7, none⟩) (Kd.R_far (p := ⟨gb411, 6, none⟩) (Kd.R_far (p := ⟨gb411, 5, none⟩) (Kd.R_far (p := ⟨gb411, 4, none⟩) (Kd.R_far (p := ⟨gb411, 3, none⟩) (Kd.R_far (p := ⟨gb411, 2, none⟩) (Kd.R_far (p := ⟨gb411, 1, none⟩) (Kd.R_far (p := ⟨gb411, 0, none⟩) (Kd.R_types HO402.out BK411.out (by decide)) (fun _ hk => by first | exact hk.2 | trivial) (.int .i64 t397)) (fun _ hk => by first | exact hk.2 | trivial) (.int .i64 t398)) (fun _ hk => by first | exact hk.2 | trivial) (.int .i64 t399)) (fun _ hk => by first | exact hk.2 | trivial) (.slice Ao48 t400.length co48)) (fun _ hk => by first | exact hk.2 | trivial) (.int .i64 t403)) (fun _ hk => by first | exact hk.2 | trivial) (.string t404)) (fun _ hk => by first | exact hk.2 | trivial) (.string t405)) (fun _ hk => by first | exact hk.2 | trivial) (.int .i64 t406)) (fun _ hk => by first | exact hk.2 | trivial) (.int .i64 t407)) (fun _ hk => by first | exact hk.2 | trivial) (.int .i64 t408)) (fun _ h_ => h_.1))) : P := h
theorem z15_2 {P : Prop} (h : P := by (with_reducible repeat (first | apply Kd.R_alloc | apply Kd.R_drewN | apply Kd.R_drew)); exact (Kd.R_mono (Kd.R_far (p := ⟨gb411, 9, none⟩) (Kd.R_far (p := ⟨gb411, 8, none⟩) (Kd.R_far (p := ⟨gb411, 7, none⟩) (Kd.R_far (p := ⟨gb411, 6, none⟩) (Kd.R_far (p := ⟨gb411, 5, none⟩) (Kd.R_far (p := ⟨gb411, 4, none⟩) (Kd.R_far (p := ⟨gb411, 3, none⟩) (Kd.R_far (p := ⟨gb411, 2, none⟩) (Kd.R_far (p := ⟨gb411, 1, none⟩) (Kd.R_far (p := ⟨gb411, 0, none⟩) (Kd.R_types HO_378003.out BK411.out (by decide)) (fun _ hk => by first | exact hk.2 | trivial) (.int .i64 t397)) (fun _ hk => by first | exact hk.2 | trivial) (.int .i64 t398)) (fun _ hk => by first | exact hk.2 | trivial) (.int .i64 t399)) (fun _ hk => by first | exact hk.2 | trivial) (.slice Ao48 t400.length co48)) (fun _ hk => by first | exact hk.2 | trivial) (.int .i64 t403)) (fun _ hk => by first | exact hk.2 | trivial) (.string t404)) (fun _ hk => by first | exact hk.2 | trivial) (.string t405)) (fun _ hk => by first | exact hk.2 | trivial) (.int .i64 t406)) (fun _ hk => by first | exact hk.2 | trivial) (.int .i64 t407)) (fun _ hk => by first | exact hk.2 | trivial) (.int .i64 t408)) (fun _ h_ => h_.1))) : P := h
theorem z15_1 {P : Prop} (h : P := by (with_reducible repeat (first | refine blk_drewN ?_ _ | refine blk_drew ?_ | refine blk_alloc ?_ _)); refine blk_put (cs := #[.int .i64 t378, .int .i64 t379, .int .i64 t380, .slice Ao15 t381.length co15, .int .i64 t384, .string t385, .string t386, .int .i64 t387, .int .i64 t388, .int .i64 0]) ?_ 9 _ rfl; (with_reducible repeat (first | refine blk_drewN ?_ _ | refine blk_drew ?_ | refine blk_alloc ?_ _)); refine blk_put (cs := #[.int .i64 t378, .int .i64 t379, .int .i64 t380, .slice Ao15 t381.length co15, .int .i64 t384, .string t385, .string t386, .int .i64 t387, .int .i64 0, .int .i64 0]) ?_ 8 _ rfl; (with_reducible repeat (first | refine blk_drewN ?_ _ | refine blk_drew ?_ | refine blk_alloc ?_ _)); refine blk_put (cs := #[.int .i64 t378, .int .i64 t379, .int .i64 t380, .slice Ao15 t381.length co15, .int .i64 t384, .string t385, .string t386, .int .i64 0, .int .i64 0, .int .i64 0]) ?_ 7 _ rfl; (with_reducible repeat (first | refine blk_drewN ?_ _ | refine blk_drew ?_ | refine blk_alloc ?_ _)); refine blk_put (cs := #[.int .i64 t378, .int .i64 t379, .int .i64 t380, .slice Ao15 t381.length co15, .int .i64 t384, .string t385, .string (⟨#[]⟩ : ByteArray), .int .i64 0, .int .i64 0, .int .i64 0]) ?_ 6 _ rfl; (with_reducible repeat (first | refine blk_drewN ?_ _ | refine blk_drew ?_ | refine blk_alloc ?_ _)); refine blk_put (cs := #[.int .i64 t378, .int .i64 t379, .int .i64 t380, .slice Ao15 t381.length co15, .int .i64 t384, .string (⟨#[]⟩ : ByteArray), .string (⟨#[]⟩ : ByteArray), .int .i64 0, .int .i64 0, .int .i64 0]) ?_ 5 _ rfl; (with_reducible repeat (first | refine blk_drewN ?_ _ | refine blk_drew ?_ | refine blk_alloc ?_ _)); refine blk_put (cs := #[.int .i64 t378, .int .i64 t379, .int .i64 t380, .slice Ao15 t381.length co15, .int .i64 0, .string (⟨#[]⟩ : ByteArray), .string (⟨#[]⟩ : ByteArray), .int .i64 0, .int .i64 0, .int .i64 0]) ?_ 4 _ rfl; (with_reducible repeat (first | refine blk_drewN ?_ _ | refine blk_drew ?_ | refine blk_alloc ?_ _)); refine blk_put (cs := #[.int .i64 t378, .int .i64 t379, .int .i64 t380, .slice none 0 0, .int .i64 0, .string (⟨#[]⟩ : ByteArray), .string (⟨#[]⟩ : ByteArray), .int .i64 0, .int .i64 0, .int .i64 0]) ?_ 3 _ rfl; (with_reducible repeat (first | refine blk_drewN ?_ _ | refine blk_drew ?_ | refine blk_alloc ?_ _)); refine blk_put (cs := #[.int .i64 t378, .int .i64 t379, .int .i64 0, .slice none 0 0, .int .i64 0, .string (⟨#[]⟩ : ByteArray), .string (⟨#[]⟩ : ByteArray), .int .i64 0, .int .i64 0, .int .i64 0]) ?_ 2 _ rfl; (with_reducible repeat (first | refine blk_drewN ?_ _ | refine blk_drew ?_ | refine blk_alloc ?_ _)); refine blk_put (cs := #[.int .i64 t378, .int .i64 0, .int .i64 0, .slice none 0 0, .int .i64 0, .string (⟨#[]⟩ : ByteArray), .string (⟨#[]⟩ : ByteArray), .int .i64 0, .int .i64 0, .int .i64 0]) ?_ 1 _ rfl; (with_reducible repeat (first | refine blk_drewN ?_ _ | refine blk_drew ?_ | refine blk_alloc ?_ _)); refine blk_put (cs := #[.int .i64 0, .int .i64 0, .int .i64 0, .slice none 0 0, .int .i64 0, .string (⟨#[]⟩ : ByteArray), .string (⟨#[]⟩ : ByteArray), .int .i64 0, .int .i64 0, .int .i64 0]) ?_ 0 _ rfl; (with_reducible repeat (first | refine blk_drewN ?_ _ | refine blk_drew ?_ | refine blk_alloc ?_ _)); exact BK392.out) : P := h
theorem z15_0 {P : Prop} (h : P := by (with_reducible repeat (first | refine blk_drewN ?_ _ | refine blk_drew ?_ | refine blk_alloc ?_ _)); refine blk_put (cs := #[.int .i64 t397, .int .i64 t398, .int .i64 t399, .slice Ao48 t400.length co48, .int .i64 t403, .string t404, .string t405, .int .i64 t406, .int .i64 t407, .int .i64 0]) ?_ 9 _ rfl; (with_reducible repeat (first | refine blk_drewN ?_ _ | refine blk_drew ?_ | refine blk_alloc ?_ _)); refine blk_put (cs := #[.int .i64 t397, .int .i64 t398, .int .i64 t399, .slice Ao48 t400.length co48, .int .i64 t403, .string t404, .string t405, .int .i64 t406, .int .i64 0, .int .i64 0]) ?_ 8 _ rfl; (with_reducible repeat (first | refine blk_drewN ?_ _ | refine blk_drew ?_ | refine blk_alloc ?_ _)); refine blk_put (cs := #[.int .i64 t397, .int .i64 t398, .int .i64 t399, .slice Ao48 t400.length co48, .int .i64 t403, .string t404, .string t405, .int .i64 0, .int .i64 0, .int .i64 0]) ?_ 7 _ rfl; (with_reducible repeat (first | refine blk_drewN ?_ _ | refine blk_drew ?_ | refine blk_alloc ?_ _)); refine blk_put (cs := #[.int .i64 t397, .int .i64 t398, .int .i64 t399, .slice Ao48 t400.length co48, .int .i64 t403, .string t404, .string (⟨#[]⟩ : ByteArray), .int .i64 0, .int .i64 0, .int .i64 0]) ?_ 6 _ rfl; (with_reducible repeat (first | refine blk_drewN ?_ _ | refine blk_drew ?_ | refine blk_alloc ?_ _)); refine blk_put (cs := #[.int .i64 t397, .int .i64 t398, .int .i64 t399, .slice Ao48 t400.length co48, .int .i64 t403, .string (⟨#[]⟩ : ByteArray), .string (⟨#[]⟩ : ByteArray), .int .i64 0, .int .i64 0, .int .i64 0]) ?_ 5 _ rfl; (with_reducible repeat (first | refine blk_drewN ?_ _ | refine blk_drew ?_ | refine blk_alloc ?_ _)); refine blk_put (cs := #[.int .i64 t397, .int .i64 t398, .int .i64 t399, .slice Ao48 t400.length co48, .int .i64 0, .string (⟨#[]⟩ : ByteArray), .string (⟨#[]⟩ : ByteArray), .int .i64 0, .int .i64 0, .int .i64 0]) ?_ 4 _ rfl; (with_reducible repeat (first | refine blk_drewN ?_ _ | refine blk_drew ?_ | refine blk_alloc ?_ _)); refine blk_put (cs := #[.int .i64 t397, .int .i64 t398, .int .i64 t399, .slice none 0 0, .int .i64 0, .string (⟨#[]⟩ : ByteArray), .string (⟨#[]⟩ : ByteArray), .int .i64 0, .int .i64 0, .int .i64 0]) ?_ 3 _ rfl; (with_reducible repeat (first | refine blk_drewN ?_ _ | refine blk_drew ?_ | refine blk_alloc ?_ _)); refine blk_put (cs := #[.int .i64 t397, .int .i64 t398, .int .i64 0, .slice none 0 0, .int .i64 0, .string (⟨#[]⟩ : ByteArray), .string (⟨#[]⟩ : ByteArray), .int .i64 0, .int .i64 0, .int .i64 0]) ?_ 2 _ rfl; (with_reducible repeat (first | refine blk_drewN ?_ _ | refine blk_drew ?_ | refine blk_alloc ?_ _)); refine blk_put (cs := #[.int .i64 t397, .int .i64 0, .int .i64 0, .slice none 0 0, .int .i64 0, .string (⟨#[]⟩ : ByteArray), .string (⟨#[]⟩ : ByteArray), .int .i64 0, .int .i64 0, .int .i64 0]) ?_ 1 _ rfl; (with_reducible repeat (first | refine blk_drewN ?_ _ | refine blk_drew ?_ | refine blk_alloc ?_ _)); refine blk_put (cs := #[.int .i64 0, .int .i64 0, .int .i64 0, .slice none 0 0, .int .i64 0, .string (⟨#[]⟩ : ByteArray), .string (⟨#[]⟩ : ByteArray), .int .i64 0, .int .i64 0, .int .i64 0]) ?_ 0 _ rfl; (with_reducible repeat (first | refine blk_drewN ?_ _ | refine blk_drew ?_ | refine blk_alloc ?_ _)); exact BK411.out) : P := h
mutual
def laws_FnExactReadAct.j0 : Nat → ByteArray → Int → Int → Bool → Bool → Int → Int → Int → List Int → Int → ByteArray → ByteArray → Int → Int → Int → Int → Int → Int → List Int → Int → ByteArray → ByteArray → Int → Int → Int → Option (Bool)
  | 0, _, _, _, _, _, _, _, _, _, _, _, _, _, _, _, _, _, _, _, _, _, _, _, _, _ => none
  | k + 1, x0, x1, x6, x7, x46, x378000, x378001, x378002, x378003, x378004, x378005, x378006, x378007, x378008, x378009, x393000, x393001, x393002, x393003, x393004, x393005, x393006, x393007, x393008, x393009 => if x46 = true then (some false) else ((laws_markAct.f k x393000 x393001 x393002 x393003 x393004 x393005 x393006 x393007 x393008 x393009 1).bind fun bt394 => ((laws_heldAct.f k x393000 x393001 x393002 bt394.2 x393004 x393005 x393006 x393007 x393008 x393009 1).bind fun t396 => (if t396 < 0 then (some false) else (if t396 = bt394.1 then ((impl_ReadAct.f k x0 x1).bind fun bt397 => ((laws_eqAct.f k bt397.1 bt397.2.1 bt397.2.2.1 bt397.2.2.2.1 bt397.2.2.2.2.1 bt397.2.2.2.2.2.1 bt397.2.2.2.2.2.2.1 bt397.2.2.2.2.2.2.2.1 bt397.2.2.2.2.2.2.2.2.1 bt397.2.2.2.2.2.2.2.2.2.1 x378000 x378001 x378002 x378003 x378004 x378005 x378006 x378007 x378008 x378009).bind fun t412 => (if t412 = true then (if bt397.2.2.2.2.2.2.2.2.2.2.1 = x6 then (laws_FnExactReadAct.j1 k bt394.1 (bt397.2.2.2.2.2.2.2.2.2.2.2 != x7) x393000 x393001 x393002 bt394.2 x393004 x393005 x393006 x393007 x393008 x393009) else (laws_FnExactReadAct.j1 k bt394.1 true x393000 x393001 x393002 bt394.2 x393004 x393005 x393006 x393007 x393008 x393009)) else (laws_FnExactReadAct.j1 k bt394.1 true x393000 x393001 x393002 bt394.2 x393004 x393005 x393006 x393007 x393008 x393009)))) else (some false)))))
def laws_FnExactReadAct.j1 : Nat → Int → Bool → Int → Int → Int → List Int → Int → ByteArray → ByteArray → Int → Int → Int → Option (Bool)
  | 0, _, _, _, _, _, _, _, _, _, _, _, _ => none
  | k + 1, x11, x78, x393000, x393001, x393002, x393003, x393004, x393005, x393006, x393007, x393008, x393009 => if x78 = true then (some false) else ((laws_heldAct.f k x393000 x393001 x393002 x393003 x393004 x393005 x393006 x393007 x393008 x393009 1).bind fun t413 => (if t413 < 0 then (some false) else (if t413 = x11 then (some true) else (some false))))
end


def laws_FnExactReadAct.f (k : Nat) (a0 : ByteArray) (a1 : Int) : Option (Bool) := if (a0.size : Int) > 1048576 then (some true) else ((spec_ReadAct.f k a0 a1).bind fun bt363 => ((impl_ReadAct.f k a0 a1).bind fun bt378 => ((laws_eqAct.f k bt378.1 bt378.2.1 bt378.2.2.1 bt378.2.2.2.1 bt378.2.2.2.2.1 bt378.2.2.2.2.2.1 bt378.2.2.2.2.2.2.1 bt378.2.2.2.2.2.2.2.1 bt378.2.2.2.2.2.2.2.2.1 bt378.2.2.2.2.2.2.2.2.2.1 bt363.1 bt363.2.1 bt363.2.2.1 bt363.2.2.2.1 bt363.2.2.2.2.1 bt363.2.2.2.2.2.1 bt363.2.2.2.2.2.2.1 bt363.2.2.2.2.2.2.2.1 bt363.2.2.2.2.2.2.2.2.1 bt363.2.2.2.2.2.2.2.2.2.1).bind fun t393 => (if t393 = true then (if bt378.2.2.2.2.2.2.2.2.2.2.1 = bt363.2.2.2.2.2.2.2.2.2.2.1 then (laws_FnExactReadAct.j0 k a0 a1 bt363.2.2.2.2.2.2.2.2.2.2.1 bt363.2.2.2.2.2.2.2.2.2.2.2 (bt378.2.2.2.2.2.2.2.2.2.2.2 != bt363.2.2.2.2.2.2.2.2.2.2.2) bt363.1 bt363.2.1 bt363.2.2.1 bt363.2.2.2.1 bt363.2.2.2.2.1 bt363.2.2.2.2.2.1 bt363.2.2.2.2.2.2.1 bt363.2.2.2.2.2.2.2.1 bt363.2.2.2.2.2.2.2.2.1 bt363.2.2.2.2.2.2.2.2.2.1 bt378.1 bt378.2.1 bt378.2.2.1 bt378.2.2.2.1 bt378.2.2.2.2.1 bt378.2.2.2.2.2.1 bt378.2.2.2.2.2.2.1 bt378.2.2.2.2.2.2.2.1 bt378.2.2.2.2.2.2.2.2.1 bt378.2.2.2.2.2.2.2.2.2.1) else (laws_FnExactReadAct.j0 k a0 a1 bt363.2.2.2.2.2.2.2.2.2.2.1 bt363.2.2.2.2.2.2.2.2.2.2.2 true bt363.1 bt363.2.1 bt363.2.2.1 bt363.2.2.2.1 bt363.2.2.2.2.1 bt363.2.2.2.2.2.1 bt363.2.2.2.2.2.2.1 bt363.2.2.2.2.2.2.2.1 bt363.2.2.2.2.2.2.2.2.1 bt363.2.2.2.2.2.2.2.2.2.1 bt378.1 bt378.2.1 bt378.2.2.1 bt378.2.2.2.1 bt378.2.2.2.2.1 bt378.2.2.2.2.2.1 bt378.2.2.2.2.2.2.1 bt378.2.2.2.2.2.2.2.1 bt378.2.2.2.2.2.2.2.2.1 bt378.2.2.2.2.2.2.2.2.2.1)) else (laws_FnExactReadAct.j0 k a0 a1 bt363.2.2.2.2.2.2.2.2.2.2.1 bt363.2.2.2.2.2.2.2.2.2.2.2 true bt363.1 bt363.2.1 bt363.2.2.1 bt363.2.2.2.1 bt363.2.2.2.2.1 bt363.2.2.2.2.2.1 bt363.2.2.2.2.2.2.1 bt363.2.2.2.2.2.2.2.1 bt363.2.2.2.2.2.2.2.2.1 bt363.2.2.2.2.2.2.2.2.2.1 bt378.1 bt378.2.1 bt378.2.2.1 bt378.2.2.2.1 bt378.2.2.2.2.1 bt378.2.2.2.2.2.1 bt378.2.2.2.2.2.2.1 bt378.2.2.2.2.2.2.2.1 bt378.2.2.2.2.2.2.2.2.1 bt378.2.2.2.2.2.2.2.2.2.1)))))
set_option maxHeartbeats 8000000 in
set_option maxRecDepth 100000 in
theorem laws_FnExactReadAct.calls_true (k : Nat) (a0 : ByteArray) (a1 : Int) (w : World) (h : laws_FnExactReadAct.f k a0 a1 = some true) :
  Calls Try.prog 3 #[.string a0, .int .i64 a1] w fun e w' => e = .returned (.bool true) ∧ Below w.heap.size w w' := by
 have hu26 := Try.underlying26
 have HB := Aside0.mk (Below.refl w.heap.size w)
 have H : (if (a0.size : Int) > 1048576 then (some true) else ((spec_ReadAct.f k a0 a1).bind fun bt363 => ((impl_ReadAct.f k a0 a1).bind fun bt378 => ((laws_eqAct.f k bt378.1 bt378.2.1 bt378.2.2.1 bt378.2.2.2.1 bt378.2.2.2.2.1 bt378.2.2.2.2.2.1 bt378.2.2.2.2.2.2.1 bt378.2.2.2.2.2.2.2.1 bt378.2.2.2.2.2.2.2.2.1 bt378.2.2.2.2.2.2.2.2.2.1 bt363.1 bt363.2.1 bt363.2.2.1 bt363.2.2.2.1 bt363.2.2.2.2.1 bt363.2.2.2.2.2.1 bt363.2.2.2.2.2.2.1 bt363.2.2.2.2.2.2.2.1 bt363.2.2.2.2.2.2.2.2.1 bt363.2.2.2.2.2.2.2.2.2.1).bind fun t393 => (if t393 = true then (if bt378.2.2.2.2.2.2.2.2.2.2.1 = bt363.2.2.2.2.2.2.2.2.2.2.1 then (laws_FnExactReadAct.j0 k a0 a1 bt363.2.2.2.2.2.2.2.2.2.2.1 bt363.2.2.2.2.2.2.2.2.2.2.2 (bt378.2.2.2.2.2.2.2.2.2.2.2 != bt363.2.2.2.2.2.2.2.2.2.2.2) bt363.1 bt363.2.1 bt363.2.2.1 bt363.2.2.2.1 bt363.2.2.2.2.1 bt363.2.2.2.2.2.1 bt363.2.2.2.2.2.2.1 bt363.2.2.2.2.2.2.2.1 bt363.2.2.2.2.2.2.2.2.1 bt363.2.2.2.2.2.2.2.2.2.1 bt378.1 bt378.2.1 bt378.2.2.1 bt378.2.2.2.1 bt378.2.2.2.2.1 bt378.2.2.2.2.2.1 bt378.2.2.2.2.2.2.1 bt378.2.2.2.2.2.2.2.1 bt378.2.2.2.2.2.2.2.2.1 bt378.2.2.2.2.2.2.2.2.2.1) else (laws_FnExactReadAct.j0 k a0 a1 bt363.2.2.2.2.2.2.2.2.2.2.1 bt363.2.2.2.2.2.2.2.2.2.2.2 true bt363.1 bt363.2.1 bt363.2.2.1 bt363.2.2.2.1 bt363.2.2.2.2.1 bt363.2.2.2.2.2.1 bt363.2.2.2.2.2.2.1 bt363.2.2.2.2.2.2.2.1 bt363.2.2.2.2.2.2.2.2.1 bt363.2.2.2.2.2.2.2.2.2.1 bt378.1 bt378.2.1 bt378.2.2.1 bt378.2.2.2.1 bt378.2.2.2.2.1 bt378.2.2.2.2.2.1 bt378.2.2.2.2.2.2.1 bt378.2.2.2.2.2.2.2.1 bt378.2.2.2.2.2.2.2.2.1 bt378.2.2.2.2.2.2.2.2.2.1)) else (laws_FnExactReadAct.j0 k a0 a1 bt363.2.2.2.2.2.2.2.2.2.2.1 bt363.2.2.2.2.2.2.2.2.2.2.2 true bt363.1 bt363.2.1 bt363.2.2.1 bt363.2.2.2.1 bt363.2.2.2.2.1 bt363.2.2.2.2.2.1 bt363.2.2.2.2.2.2.1 bt363.2.2.2.2.2.2.2.1 bt363.2.2.2.2.2.2.2.2.1 bt363.2.2.2.2.2.2.2.2.2.1 bt378.1 bt378.2.1 bt378.2.2.1 bt378.2.2.2.1 bt378.2.2.2.2.1 bt378.2.2.2.2.2.1 bt378.2.2.2.2.2.2.1 bt378.2.2.2.2.2.2.2.1 bt378.2.2.2.2.2.2.2.2.1 bt378.2.2.2.2.2.2.2.2.2.1)))))) = some true := h
 clear h
 by_cases c3 : (a0.size : Int) > 1048576
 ·
  rw [if_pos c3] at H
  have c3b0 : decide (1048576 < (a0.size : Int)) = true := decide_eq_true c3
  have c3b1 : decide (1048576 < a0.size) = true := decide_eq_true (by omega)
  clear c3
  clear H
  go_enter Try.func3, Try.ntmps3
  go_wp2
  go_ret
  exact ⟨by first | rfl | (simp [errW_none, errW_some] <;> rfl) | (simp [*, errW_none, errW_some] <;> rfl), z15_18⟩
 ·
  rw [if_neg c3] at H
  have c3b0 : decide (1048576 < (a0.size : Int)) = false := decide_eq_false c3
  have c3b1 : decide (1048576 < a0.size) = false := decide_eq_false (by omega)
  clear c3
  replace H := Option.bind_eq_some_iff.mp H
  obtain ⟨⟨t363, t364, t365, t366, t369, t370, t371, t372, t373, t374, t375, t376⟩, A40, H⟩ := H
  (try dsimp only at H)
  have A4 := Aside0.mk A40
  clear A40
  replace H := Option.bind_eq_some_iff.mp H
  obtain ⟨⟨t378, t379, t380, t381, t384, t385, t386, t387, t388, t389, t390, t391⟩, A50, H⟩ := H
  (try dsimp only at H)
  have A5 := Aside0.mk A50
  clear A50
  have HC6 := Aside0.mk H
  clear H
  go_enter Try.func3, Try.ntmps3
  go_upto_region 5 with (first | ((with_reducible refine gate_callee (f := 4) rfl ?_); refine goesL_ (some 22) rfl rfl Try.func4 (by kernel_rfl) rfl #[.string a0, .int .i64 a1] rfl z15_15 ?_; (with_reducible refine (spec_ReadAct.calls k a0 a1 t363 t364 t365 t366 t369 t370 t371 t372 t373 t374 t375 t376 _ A4.out).mono ?_); rintro e w7 ⟨v367, rfl, ho0, hb⟩; refine ⟨_, rfl, ?_⟩; have n0_ := Aside0.mk (Kd.R_lower ho0 (below_size z15_18)); have n1_ := Aside0.mk (below_step z15_18 hb); clear HB; have HO368 := n0_; have HB := n1_; clear n0_ n1_; (try clear ho0)) | ((with_reducible refine gate_dst (N := 5) rfl ?_); refine box_event ?hg (N := 5) ?hd (cs := #[.int .i64 0, .int .i64 0, .int .i64 0, .slice none 0 0, .int .i64 0, .string (⟨#[]⟩ : ByteArray), .string (⟨#[]⟩ : ByteArray), .int .i64 0, .int .i64 0, .int .i64 0]) (t := 26) ?hr ?_; (case hd => rfl); (case hg => rfl); (case hr => first | (go_simp; done) | (go_simp; rfl)); intro gb377 hg w8 hbox hb; have n0_ := Aside0.mk (Kd.R_below (by (with_reducible repeat (first | apply Kd.R_alloc | apply Kd.R_drewN | apply Kd.R_drew)); exact HO368.out) hb); have n1_ := Aside0.mk (below_step z15_18 hb); have n2_ := Aside0.mk (hbox); have n3_ := Aside0.mk ((by rw [hg]; exact (below_size z15_18) : w.heap.size ≤ gb377)); have n4_ := Aside0.mk ((by rw [hg]; exact (below_size z15_18) : w.heap.size ≤ gb377)); clear HO368; clear HB; have HO368 := n0_; have HB := n1_; have BK377 := n2_; have GW377 := n3_; have GE377 := n4_; clear n0_ n1_ n2_ n3_ n4_; clear hb hbox hg; have hcz9_0 : w8.cell? ⟨gb377, 0, none⟩ = some (.int .i64 0) := (blk_cell BK377.out 0).trans rfl; have hcz9_1 : w8.cell? ⟨gb377, 1, none⟩ = some (.int .i64 0) := (blk_cell BK377.out 1).trans rfl; have hcz9_2 : w8.cell? ⟨gb377, 2, none⟩ = some (.int .i64 0) := (blk_cell BK377.out 2).trans rfl; have hcz9_3 : w8.cell? ⟨gb377, 3, none⟩ = some (.slice none 0 0) := (blk_cell BK377.out 3).trans rfl; have hcz9_4 : w8.cell? ⟨gb377, 4, none⟩ = some (.int .i64 0) := (blk_cell BK377.out 4).trans rfl; have hcz9_5 : w8.cell? ⟨gb377, 5, none⟩ = some (.string (⟨#[]⟩ : ByteArray)) := (blk_cell BK377.out 5).trans rfl; have hcz9_6 : w8.cell? ⟨gb377, 6, none⟩ = some (.string (⟨#[]⟩ : ByteArray)) := (blk_cell BK377.out 6).trans rfl; have hcz9_7 : w8.cell? ⟨gb377, 7, none⟩ = some (.int .i64 0) := (blk_cell BK377.out 7).trans rfl; have hcz9_8 : w8.cell? ⟨gb377, 8, none⟩ = some (.int .i64 0) := (blk_cell BK377.out 8).trans rfl; have hcz9_9 : w8.cell? ⟨gb377, 9, none⟩ = some (.int .i64 0) := (blk_cell BK377.out 9).trans rfl; have hfz9_0 := blk_frozen BK377.out 0; have hfz9_1 := blk_frozen BK377.out 1; have hfz9_2 := blk_frozen BK377.out 2; have hfz9_3 := blk_frozen BK377.out 3; have hfz9_4 := blk_frozen BK377.out 4; have hfz9_5 := blk_frozen BK377.out 5; have hfz9_6 := blk_frozen BK377.out 6; have hfz9_7 := blk_frozen BK377.out 7; have hfz9_8 := blk_frozen BK377.out 8; have hfz9_9 := blk_frozen BK377.out 9; obtain ⟨Ao10, co10, eo10⟩ := Kd.R_slice HO368.out; subst eo10) | ((with_reducible refine gate_callee (f := 5) rfl ?_); refine goesL_ (some 29) rfl rfl Try.func5 (by kernel_rfl) rfl #[.string a0, .int .i64 a1] rfl z15_15 ?_; (with_reducible refine (impl_ReadAct.calls k a0 a1 t378 t379 t380 t381 t384 t385 t386 t387 t388 t389 t390 t391 _ A5.out).mono ?_); rintro e w11 ⟨v382, rfl, ho0, hb⟩; refine ⟨_, rfl, ?_⟩; have n0_ := Aside0.mk (Kd.R_elder' z15_14 (Kd.R_base ho0) hb); have n1_ := Aside0.mk (Kd.R_lower (Kd.R_new' ho0 (Kd.R_lt z15_14)) (below_size z15_19)); have n2_ := Aside0.mk (blk_below (g := gb377) (o := .cells #[.int .i64 t363, .int .i64 t364, .int .i64 t365, .slice Ao10 t366.length co10, .int .i64 t369, .string t370, .string t371, .int .i64 t372, .int .i64 t373, .int .i64 t374] 26 (0, 0)) (by (with_reducible repeat (first | refine blk_drewN ?_ _ | refine blk_drew ?_ | refine blk_alloc ?_ _)); refine blk_put (cs := #[.int .i64 t363, .int .i64 t364, .int .i64 t365, .slice Ao10 t366.length co10, .int .i64 t369, .string t370, .string t371, .int .i64 t372, .int .i64 t373, .int .i64 0]) ?_ 9 _ rfl; (with_reducible repeat (first | refine blk_drewN ?_ _ | refine blk_drew ?_ | refine blk_alloc ?_ _)); refine blk_put (cs := #[.int .i64 t363, .int .i64 t364, .int .i64 t365, .slice Ao10 t366.length co10, .int .i64 t369, .string t370, .string t371, .int .i64 t372, .int .i64 0, .int .i64 0]) ?_ 8 _ rfl; (with_reducible repeat (first | refine blk_drewN ?_ _ | refine blk_drew ?_ | refine blk_alloc ?_ _)); refine blk_put (cs := #[.int .i64 t363, .int .i64 t364, .int .i64 t365, .slice Ao10 t366.length co10, .int .i64 t369, .string t370, .string t371, .int .i64 0, .int .i64 0, .int .i64 0]) ?_ 7 _ rfl; (with_reducible repeat (first | refine blk_drewN ?_ _ | refine blk_drew ?_ | refine blk_alloc ?_ _)); refine blk_put (cs := #[.int .i64 t363, .int .i64 t364, .int .i64 t365, .slice Ao10 t366.length co10, .int .i64 t369, .string t370, .string (⟨#[]⟩ : ByteArray), .int .i64 0, .int .i64 0, .int .i64 0]) ?_ 6 _ rfl; (with_reducible repeat (first | refine blk_drewN ?_ _ | refine blk_drew ?_ | refine blk_alloc ?_ _)); refine blk_put (cs := #[.int .i64 t363, .int .i64 t364, .int .i64 t365, .slice Ao10 t366.length co10, .int .i64 t369, .string (⟨#[]⟩ : ByteArray), .string (⟨#[]⟩ : ByteArray), .int .i64 0, .int .i64 0, .int .i64 0]) ?_ 5 _ rfl; (with_reducible repeat (first | refine blk_drewN ?_ _ | refine blk_drew ?_ | refine blk_alloc ?_ _)); refine blk_put (cs := #[.int .i64 t363, .int .i64 t364, .int .i64 t365, .slice Ao10 t366.length co10, .int .i64 0, .string (⟨#[]⟩ : ByteArray), .string (⟨#[]⟩ : ByteArray), .int .i64 0, .int .i64 0, .int .i64 0]) ?_ 4 _ rfl; (with_reducible repeat (first | refine blk_drewN ?_ _ | refine blk_drew ?_ | refine blk_alloc ?_ _)); refine blk_put (cs := #[.int .i64 t363, .int .i64 t364, .int .i64 t365, .slice none 0 0, .int .i64 0, .string (⟨#[]⟩ : ByteArray), .string (⟨#[]⟩ : ByteArray), .int .i64 0, .int .i64 0, .int .i64 0]) ?_ 3 _ rfl; (with_reducible repeat (first | refine blk_drewN ?_ _ | refine blk_drew ?_ | refine blk_alloc ?_ _)); refine blk_put (cs := #[.int .i64 t363, .int .i64 t364, .int .i64 0, .slice none 0 0, .int .i64 0, .string (⟨#[]⟩ : ByteArray), .string (⟨#[]⟩ : ByteArray), .int .i64 0, .int .i64 0, .int .i64 0]) ?_ 2 _ rfl; (with_reducible repeat (first | refine blk_drewN ?_ _ | refine blk_drew ?_ | refine blk_alloc ?_ _)); refine blk_put (cs := #[.int .i64 t363, .int .i64 0, .int .i64 0, .slice none 0 0, .int .i64 0, .string (⟨#[]⟩ : ByteArray), .string (⟨#[]⟩ : ByteArray), .int .i64 0, .int .i64 0, .int .i64 0]) ?_ 1 _ rfl; (with_reducible repeat (first | refine blk_drewN ?_ _ | refine blk_drew ?_ | refine blk_alloc ?_ _)); refine blk_put (cs := #[.int .i64 0, .int .i64 0, .int .i64 0, .slice none 0 0, .int .i64 0, .string (⟨#[]⟩ : ByteArray), .string (⟨#[]⟩ : ByteArray), .int .i64 0, .int .i64 0, .int .i64 0]) ?_ 0 _ rfl; (with_reducible repeat (first | refine blk_drewN ?_ _ | refine blk_drew ?_ | refine blk_alloc ?_ _)); exact BK377.out) hb); have n3_ := Aside0.mk (below_step z15_19 hb); clear HO368; clear BK377; clear HB; have HO368 := n0_; have HO383 := n1_; have BK377 := n2_; have HB := n3_; clear n0_ n1_ n2_ n3_; (try clear ho0)) | ((with_reducible refine gate_dst (N := 8) rfl ?_); refine box_event ?hg (N := 8) ?hd (cs := #[.int .i64 0, .int .i64 0, .int .i64 0, .slice none 0 0, .int .i64 0, .string (⟨#[]⟩ : ByteArray), .string (⟨#[]⟩ : ByteArray), .int .i64 0, .int .i64 0, .int .i64 0]) (t := 26) ?hr ?_; (case hd => rfl); (case hg => rfl); (case hr => first | (go_simp; done) | (go_simp; rfl)); intro gb392 hg w12 hbox hb; have n0_ := Aside0.mk (Kd.R_below (by (with_reducible repeat (first | apply Kd.R_alloc | apply Kd.R_drewN | apply Kd.R_drew)); exact HO368.out) hb); have n1_ := Aside0.mk (Kd.R_below (by (with_reducible repeat (first | apply Kd.R_alloc | apply Kd.R_drewN | apply Kd.R_drew)); exact HO383.out) hb); have n2_ := Aside0.mk (blk_below (g := gb377) (o := .cells #[.int .i64 t363, .int .i64 t364, .int .i64 t365, .slice Ao10 t366.length co10, .int .i64 t369, .string t370, .string t371, .int .i64 t372, .int .i64 t373, .int .i64 t374] 26 (0, 0)) z15_11 hb); have n3_ := Aside0.mk (below_step z15_19 hb); have n4_ := Aside0.mk (hbox); have n5_ := Aside0.mk ((by rw [hg]; exact (below_size z15_19) : w.heap.size ≤ gb392)); have n6_ := Aside0.mk ((by rw [hg]; exact (below_size z15_19) : w.heap.size ≤ gb392)); have n7_ := Aside0.mk ((by rw [hg]; exact Nat.ne_of_lt (blk_lt (g := gb377) (o := .cells #[.int .i64 t363, .int .i64 t364, .int .i64 t365, .slice Ao10 t366.length co10, .int .i64 t369, .string t370, .string t371, .int .i64 t372, .int .i64 t373, .int .i64 t374] 26 (0, 0)) z15_11) : gb377 ≠ gb392)); have n8_ := Aside0.mk ((by rw [hg]; exact Nat.ne_of_gt (blk_lt (g := gb377) (o := .cells #[.int .i64 t363, .int .i64 t364, .int .i64 t365, .slice Ao10 t366.length co10, .int .i64 t369, .string t370, .string t371, .int .i64 t372, .int .i64 t373, .int .i64 t374] 26 (0, 0)) z15_11) : gb392 ≠ gb377)); clear HO368; clear HO383; clear BK377; clear HB; have HO368 := n0_; have HO383 := n1_; have BK377 := n2_; have HB := n3_; have BK392 := n4_; have GW392 := n5_; have GE392 := n6_; have NB377_392 := n7_; have NB392_377 := n8_; clear n0_ n1_ n2_ n3_ n4_ n5_ n6_ n7_ n8_; clear hb hbox hg; have hnb13 := NB392_377.out; have hnc13 := NB377_392.out; have hcz14_0 : w12.cell? ⟨gb392, 0, none⟩ = some (.int .i64 0) := (blk_cell BK392.out 0).trans rfl; have hcz14_1 : w12.cell? ⟨gb392, 1, none⟩ = some (.int .i64 0) := (blk_cell BK392.out 1).trans rfl; have hcz14_2 : w12.cell? ⟨gb392, 2, none⟩ = some (.int .i64 0) := (blk_cell BK392.out 2).trans rfl; have hcz14_3 : w12.cell? ⟨gb392, 3, none⟩ = some (.slice none 0 0) := (blk_cell BK392.out 3).trans rfl; have hcz14_4 : w12.cell? ⟨gb392, 4, none⟩ = some (.int .i64 0) := (blk_cell BK392.out 4).trans rfl; have hcz14_5 : w12.cell? ⟨gb392, 5, none⟩ = some (.string (⟨#[]⟩ : ByteArray)) := (blk_cell BK392.out 5).trans rfl; have hcz14_6 : w12.cell? ⟨gb392, 6, none⟩ = some (.string (⟨#[]⟩ : ByteArray)) := (blk_cell BK392.out 6).trans rfl; have hcz14_7 : w12.cell? ⟨gb392, 7, none⟩ = some (.int .i64 0) := (blk_cell BK392.out 7).trans rfl; have hcz14_8 : w12.cell? ⟨gb392, 8, none⟩ = some (.int .i64 0) := (blk_cell BK392.out 8).trans rfl; have hcz14_9 : w12.cell? ⟨gb392, 9, none⟩ = some (.int .i64 0) := (blk_cell BK392.out 9).trans rfl; have hfz14_0 := blk_frozen BK392.out 0; have hfz14_1 := blk_frozen BK392.out 1; have hfz14_2 := blk_frozen BK392.out 2; have hfz14_3 := blk_frozen BK392.out 3; have hfz14_4 := blk_frozen BK392.out 4; have hfz14_5 := blk_frozen BK392.out 5; have hfz14_6 := blk_frozen BK392.out 6; have hfz14_7 := blk_frozen BK392.out 7; have hfz14_8 := blk_frozen BK392.out 8; have hfz14_9 := blk_frozen BK392.out 9; obtain ⟨Ao15, co15, eo15⟩ := Kd.R_slice HO383.out; subst eo15))
  (try simp only [Act.put, List.setIfInBounds_toArray, List.set_cons_zero, List.set_cons_succ])
  go_cut [46] (fun v46 wc => ∃ (kq : Nat) (x46_5 : Bool), v46 = .bool x46_5 ∧ Aside0 (laws_FnExactReadAct.j0 kq a0 a1 t375 t376 x46_5 t363 t364 t365 t366 t369 t370 t371 t372 t373 t374 t378 t379 t380 t381 t384 t385 t386 t387 t388 t389 = some true) ∧ Aside0 (kq ≤ k) ∧ Aside0 (Kd.R (Kd.int .i64) 3 wc w.heap.size (fun k_ => some k_ ≠ ((.slice Ao15 t381.length co15) : Value).ownBlock) (.slice Ao10 t366.length co10) t366) ∧ Aside0 (Kd.R (Kd.int .i64) 3 wc w.heap.size (fun k_ => some k_ ≠ ((.slice Ao10 t366.length co10) : Value).ownBlock) (.slice Ao15 t381.length co15) t381) ∧ Aside0 (wc.heap[gb377]? = some (.cells #[.int .i64 t363, .int .i64 t364, .int .i64 t365, (.slice Ao10 t366.length co10), .int .i64 t369, .string t370, .string t371, .int .i64 t372, .int .i64 t373, .int .i64 t374] 26 (0, 0))) ∧ Aside0 (wc.heap[gb392]? = some (.cells #[.int .i64 t378, .int .i64 t379, .int .i64 t380, (.slice Ao15 t381.length co15), .int .i64 t384, .string t385, .string t386, .int .i64 t387, .int .i64 t388, .int .i64 t389] 26 (0, 0))) ∧ Aside0 (Below w.heap.size w wc))
  case first =>
   have H := HC6.out
   clear HC6
   replace H := Option.bind_eq_some_iff.mp H
   obtain ⟨t393, A160, H⟩ := H
   (try dsimp only at H)
   have A16 := Aside0.mk A160
   clear A160
   by_cases c17 : t393 = true
   ·
    subst c17
    rw [if_pos rfl] at H
    by_cases c18 : t390 = t375
    ·
     rw [if_pos c18] at H
     have c18b0 : (t390 == t375) = true := beq_iff_eq.mpr c18
     have c18b1 : (t390 != t375) = false := bne_eq_false_iff_eq.mpr c18
     clear c18
     (first | rw [c18b0] | (simp only [i64_w, i32_w]; rw [c18b0]) | skip)
     have H' := Aside0.mk H
     clear H
     have hnb19 := NB392_377.out
     have hnc19 := NB377_392.out
     have hcz20_0 : w12.cell? ⟨gb392, 0, none⟩ = some (.int .i64 0) := (blk_cell BK392.out 0).trans rfl
     have hcz20_1 : w12.cell? ⟨gb392, 1, none⟩ = some (.int .i64 0) := (blk_cell BK392.out 1).trans rfl
     have hcz20_2 : w12.cell? ⟨gb392, 2, none⟩ = some (.int .i64 0) := (blk_cell BK392.out 2).trans rfl
     have hcz20_3 : w12.cell? ⟨gb392, 3, none⟩ = some (.slice none 0 0) := (blk_cell BK392.out 3).trans rfl
     have hcz20_4 : w12.cell? ⟨gb392, 4, none⟩ = some (.int .i64 0) := (blk_cell BK392.out 4).trans rfl
     have hcz20_5 : w12.cell? ⟨gb392, 5, none⟩ = some (.string (⟨#[]⟩ : ByteArray)) := (blk_cell BK392.out 5).trans rfl
     have hcz20_6 : w12.cell? ⟨gb392, 6, none⟩ = some (.string (⟨#[]⟩ : ByteArray)) := (blk_cell BK392.out 6).trans rfl
     have hcz20_7 : w12.cell? ⟨gb392, 7, none⟩ = some (.int .i64 0) := (blk_cell BK392.out 7).trans rfl
     have hcz20_8 : w12.cell? ⟨gb392, 8, none⟩ = some (.int .i64 0) := (blk_cell BK392.out 8).trans rfl
     have hcz20_9 : w12.cell? ⟨gb392, 9, none⟩ = some (.int .i64 0) := (blk_cell BK392.out 9).trans rfl
     have hfz20_0 := blk_frozen BK392.out 0
     have hfz20_1 := blk_frozen BK392.out 1
     have hfz20_2 := blk_frozen BK392.out 2
     have hfz20_3 := blk_frozen BK392.out 3
     have hfz20_4 := blk_frozen BK392.out 4
     have hfz20_5 := blk_frozen BK392.out 5
     have hfz20_6 := blk_frozen BK392.out 6
     have hfz20_7 := blk_frozen BK392.out 7
     have hfz20_8 := blk_frozen BK392.out 8
     have hfz20_9 := blk_frozen BK392.out 9
     have hcz21_0 : w12.cell? ⟨gb377, 0, none⟩ = some (.int .i64 t363) := (blk_cell BK377.out 0).trans rfl
     have hcz21_1 : w12.cell? ⟨gb377, 1, none⟩ = some (.int .i64 t364) := (blk_cell BK377.out 1).trans rfl
     have hcz21_2 : w12.cell? ⟨gb377, 2, none⟩ = some (.int .i64 t365) := (blk_cell BK377.out 2).trans rfl
     have hcz21_3 : w12.cell? ⟨gb377, 3, none⟩ = some (.slice Ao10 t366.length co10) := (blk_cell BK377.out 3).trans rfl
     have hcz21_4 : w12.cell? ⟨gb377, 4, none⟩ = some (.int .i64 t369) := (blk_cell BK377.out 4).trans rfl
     have hcz21_5 : w12.cell? ⟨gb377, 5, none⟩ = some (.string t370) := (blk_cell BK377.out 5).trans rfl
     have hcz21_6 : w12.cell? ⟨gb377, 6, none⟩ = some (.string t371) := (blk_cell BK377.out 6).trans rfl
     have hcz21_7 : w12.cell? ⟨gb377, 7, none⟩ = some (.int .i64 t372) := (blk_cell BK377.out 7).trans rfl
     have hcz21_8 : w12.cell? ⟨gb377, 8, none⟩ = some (.int .i64 t373) := (blk_cell BK377.out 8).trans rfl
     have hcz21_9 : w12.cell? ⟨gb377, 9, none⟩ = some (.int .i64 t374) := (blk_cell BK377.out 9).trans rfl
     have hfz21_0 := blk_frozen BK377.out 0
     have hfz21_1 := blk_frozen BK377.out 1
     have hfz21_2 := blk_frozen BK377.out 2
     have hfz21_3 := blk_frozen BK377.out 3
     have hfz21_4 := blk_frozen BK377.out 4
     have hfz21_5 := blk_frozen BK377.out 5
     have hfz21_6 := blk_frozen BK377.out 6
     have hfz21_7 := blk_frozen BK377.out 7
     have hfz21_8 := blk_frozen BK377.out 8
     have hfz21_9 := blk_frozen BK377.out 9
     go_wp2_with (first | ((with_reducible refine gate_callee (f := 6) rfl ?_); refine goesL_ (some 35) rfl rfl Try.func6 (by kernel_rfl) rfl #[.agg #[.int .i64 t378, .int .i64 t379, .int .i64 t380, .slice Ao15 t381.length co15, .int .i64 t384, .string t385, .string t386, .int .i64 t387, .int .i64 t388, .int .i64 t389], .agg #[.int .i64 t363, .int .i64 t364, .int .i64 t365, .slice Ao10 t366.length co10, .int .i64 t369, .string t370, .string t371, .int .i64 t372, .int .i64 t373, .int .i64 t374]] rfl z15_15 ?_; (with_reducible refine (laws_eqAct.calls k t378 t379 t380 _ _ t381 t384 t385 t386 t387 t388 t389 t363 t364 t365 _ _ t366 t369 t370 t371 t372 t373 t374 true _ ?side1 ?side2 ?side3 ?side4 A16.out).mono ?_); (case side1 => refine (Kd.R_reads' (e := 3) (base := w.heap.size) (ok := fun k_ => (True ∧ some k_ ≠ (.slice Ao10 t366.length co10 : Value).ownBlock)) (n := t381.length) (c := co15) ?_).2.2; exact z15_4); (case side2 => exact (Kd.R_reads' HO383.out).2.1); (case side3 => refine (Kd.R_reads' (e := 3) (base := w.heap.size) (ok := fun k_ => (True ∧ some k_ ≠ (.slice Ao15 t381.length co15 : Value).ownBlock)) (n := t366.length) (c := co10) ?_).2.2; exact z15_5); (case side4 => exact (Kd.R_reads' HO368.out).2.1); rintro e w22 ⟨rfl, hb⟩; refine ⟨_, rfl, ?_⟩; have n0_ := Aside0.mk (Kd.R_below z15_5 hb); have n1_ := Aside0.mk (Kd.R_below z15_4 hb); have n2_ := Aside0.mk (blk_below (g := gb377) (o := .cells #[.int .i64 t363, .int .i64 t364, .int .i64 t365, .slice Ao10 t366.length co10, .int .i64 t369, .string t370, .string t371, .int .i64 t372, .int .i64 t373, .int .i64 t374] 26 (0, 0)) z15_8 hb); have n3_ := Aside0.mk (blk_below (g := gb392) (o := .cells #[.int .i64 t378, .int .i64 t379, .int .i64 t380, .slice Ao15 t381.length co15, .int .i64 t384, .string t385, .string t386, .int .i64 t387, .int .i64 t388, .int .i64 t389] 26 (0, 0)) z15_1 hb); have n4_ := Aside0.mk (below_step z15_10 hb); clear HO368; clear HO383; clear BK377; clear BK392; clear HB; have HO368 := n0_; have HO383 := n1_; have BK377 := n2_; have BK392 := n3_; have HB := n4_; clear n0_ n1_ n2_ n3_ n4_))
     go_meet
     case rel => exact ⟨_, ((t391 != t376)), z15_24, H', ⟨by first | omega | exact Nat.le_refl _⟩, ⟨z15_22⟩, ⟨z15_21⟩, ⟨z15_11⟩, ⟨z15_13⟩, ⟨z15_10⟩⟩
    ·
     rw [if_neg c18] at H
     have c18b0 : (t390 == t375) = false := beq_eq_false_iff_ne.mpr c18
     have c18b1 : (t390 != t375) = true := bne_iff_ne.mpr c18
     (first | rw [c18b0] | (simp only [i64_w, i32_w]; rw [c18b0]) | skip)
     have H' := Aside0.mk H
     clear H
     have hnb23 := NB392_377.out
     have hnc23 := NB377_392.out
     have hcz24_0 : w12.cell? ⟨gb392, 0, none⟩ = some (.int .i64 0) := (blk_cell BK392.out 0).trans rfl
     have hcz24_1 : w12.cell? ⟨gb392, 1, none⟩ = some (.int .i64 0) := (blk_cell BK392.out 1).trans rfl
     have hcz24_2 : w12.cell? ⟨gb392, 2, none⟩ = some (.int .i64 0) := (blk_cell BK392.out 2).trans rfl
     have hcz24_3 : w12.cell? ⟨gb392, 3, none⟩ = some (.slice none 0 0) := (blk_cell BK392.out 3).trans rfl
     have hcz24_4 : w12.cell? ⟨gb392, 4, none⟩ = some (.int .i64 0) := (blk_cell BK392.out 4).trans rfl
     have hcz24_5 : w12.cell? ⟨gb392, 5, none⟩ = some (.string (⟨#[]⟩ : ByteArray)) := (blk_cell BK392.out 5).trans rfl
     have hcz24_6 : w12.cell? ⟨gb392, 6, none⟩ = some (.string (⟨#[]⟩ : ByteArray)) := (blk_cell BK392.out 6).trans rfl
     have hcz24_7 : w12.cell? ⟨gb392, 7, none⟩ = some (.int .i64 0) := (blk_cell BK392.out 7).trans rfl
     have hcz24_8 : w12.cell? ⟨gb392, 8, none⟩ = some (.int .i64 0) := (blk_cell BK392.out 8).trans rfl
     have hcz24_9 : w12.cell? ⟨gb392, 9, none⟩ = some (.int .i64 0) := (blk_cell BK392.out 9).trans rfl
     have hfz24_0 := blk_frozen BK392.out 0
     have hfz24_1 := blk_frozen BK392.out 1
     have hfz24_2 := blk_frozen BK392.out 2
     have hfz24_3 := blk_frozen BK392.out 3
     have hfz24_4 := blk_frozen BK392.out 4
     have hfz24_5 := blk_frozen BK392.out 5
     have hfz24_6 := blk_frozen BK392.out 6
     have hfz24_7 := blk_frozen BK392.out 7
     have hfz24_8 := blk_frozen BK392.out 8
     have hfz24_9 := blk_frozen BK392.out 9
     have hcz25_0 : w12.cell? ⟨gb377, 0, none⟩ = some (.int .i64 t363) := (blk_cell BK377.out 0).trans rfl
     have hcz25_1 : w12.cell? ⟨gb377, 1, none⟩ = some (.int .i64 t364) := (blk_cell BK377.out 1).trans rfl
     have hcz25_2 : w12.cell? ⟨gb377, 2, none⟩ = some (.int .i64 t365) := (blk_cell BK377.out 2).trans rfl
     have hcz25_3 : w12.cell? ⟨gb377, 3, none⟩ = some (.slice Ao10 t366.length co10) := (blk_cell BK377.out 3).trans rfl
     have hcz25_4 : w12.cell? ⟨gb377, 4, none⟩ = some (.int .i64 t369) := (blk_cell BK377.out 4).trans rfl
     have hcz25_5 : w12.cell? ⟨gb377, 5, none⟩ = some (.string t370) := (blk_cell BK377.out 5).trans rfl
     have hcz25_6 : w12.cell? ⟨gb377, 6, none⟩ = some (.string t371) := (blk_cell BK377.out 6).trans rfl
     have hcz25_7 : w12.cell? ⟨gb377, 7, none⟩ = some (.int .i64 t372) := (blk_cell BK377.out 7).trans rfl
     have hcz25_8 : w12.cell? ⟨gb377, 8, none⟩ = some (.int .i64 t373) := (blk_cell BK377.out 8).trans rfl
     have hcz25_9 : w12.cell? ⟨gb377, 9, none⟩ = some (.int .i64 t374) := (blk_cell BK377.out 9).trans rfl
     have hfz25_0 := blk_frozen BK377.out 0
     have hfz25_1 := blk_frozen BK377.out 1
     have hfz25_2 := blk_frozen BK377.out 2
     have hfz25_3 := blk_frozen BK377.out 3
     have hfz25_4 := blk_frozen BK377.out 4
     have hfz25_5 := blk_frozen BK377.out 5
     have hfz25_6 := blk_frozen BK377.out 6
     have hfz25_7 := blk_frozen BK377.out 7
     have hfz25_8 := blk_frozen BK377.out 8
     have hfz25_9 := blk_frozen BK377.out 9
     go_wp2_with (first | ((with_reducible refine gate_callee (f := 6) rfl ?_); refine goesL_ (some 35) rfl rfl Try.func6 (by kernel_rfl) rfl #[.agg #[.int .i64 t378, .int .i64 t379, .int .i64 t380, .slice Ao15 t381.length co15, .int .i64 t384, .string t385, .string t386, .int .i64 t387, .int .i64 t388, .int .i64 t389], .agg #[.int .i64 t363, .int .i64 t364, .int .i64 t365, .slice Ao10 t366.length co10, .int .i64 t369, .string t370, .string t371, .int .i64 t372, .int .i64 t373, .int .i64 t374]] rfl z15_15 ?_; (with_reducible refine (laws_eqAct.calls k t378 t379 t380 _ _ t381 t384 t385 t386 t387 t388 t389 t363 t364 t365 _ _ t366 t369 t370 t371 t372 t373 t374 true _ ?side1 ?side2 ?side3 ?side4 A16.out).mono ?_); (case side1 => refine (Kd.R_reads' (e := 3) (base := w.heap.size) (ok := fun k_ => (True ∧ some k_ ≠ (.slice Ao10 t366.length co10 : Value).ownBlock)) (n := t381.length) (c := co15) ?_).2.2; exact z15_4); (case side2 => exact (Kd.R_reads' HO383.out).2.1); (case side3 => refine (Kd.R_reads' (e := 3) (base := w.heap.size) (ok := fun k_ => (True ∧ some k_ ≠ (.slice Ao15 t381.length co15 : Value).ownBlock)) (n := t366.length) (c := co10) ?_).2.2; exact z15_5); (case side4 => exact (Kd.R_reads' HO368.out).2.1); rintro e w26 ⟨rfl, hb⟩; refine ⟨_, rfl, ?_⟩; have n0_ := Aside0.mk (Kd.R_below z15_5 hb); have n1_ := Aside0.mk (Kd.R_below z15_4 hb); have n2_ := Aside0.mk (blk_below (g := gb377) (o := .cells #[.int .i64 t363, .int .i64 t364, .int .i64 t365, .slice Ao10 t366.length co10, .int .i64 t369, .string t370, .string t371, .int .i64 t372, .int .i64 t373, .int .i64 t374] 26 (0, 0)) z15_8 hb); have n3_ := Aside0.mk (blk_below (g := gb392) (o := .cells #[.int .i64 t378, .int .i64 t379, .int .i64 t380, .slice Ao15 t381.length co15, .int .i64 t384, .string t385, .string t386, .int .i64 t387, .int .i64 t388, .int .i64 t389] 26 (0, 0)) z15_1 hb); have n4_ := Aside0.mk (below_step z15_10 hb); clear HO368; clear HO383; clear BK377; clear BK392; clear HB; have HO368 := n0_; have HO383 := n1_; have BK377 := n2_; have BK392 := n3_; have HB := n4_; clear n0_ n1_ n2_ n3_ n4_))
     go_meet
     case rel => exact ⟨_, (true), z15_24, H', ⟨by first | omega | exact Nat.le_refl _⟩, ⟨z15_22⟩, ⟨z15_21⟩, ⟨z15_11⟩, ⟨z15_13⟩, ⟨z15_10⟩⟩
   ·
    replace c17 := Bool.eq_false_iff.mpr c17
    subst c17
    rw [if_neg (show ¬ (false = true) by decide)] at H
    have H' := Aside0.mk H
    clear H
    have hnb27 := NB392_377.out
    have hnc27 := NB377_392.out
    have hcz28_0 : w12.cell? ⟨gb392, 0, none⟩ = some (.int .i64 0) := (blk_cell BK392.out 0).trans rfl
    have hcz28_1 : w12.cell? ⟨gb392, 1, none⟩ = some (.int .i64 0) := (blk_cell BK392.out 1).trans rfl
    have hcz28_2 : w12.cell? ⟨gb392, 2, none⟩ = some (.int .i64 0) := (blk_cell BK392.out 2).trans rfl
    have hcz28_3 : w12.cell? ⟨gb392, 3, none⟩ = some (.slice none 0 0) := (blk_cell BK392.out 3).trans rfl
    have hcz28_4 : w12.cell? ⟨gb392, 4, none⟩ = some (.int .i64 0) := (blk_cell BK392.out 4).trans rfl
    have hcz28_5 : w12.cell? ⟨gb392, 5, none⟩ = some (.string (⟨#[]⟩ : ByteArray)) := (blk_cell BK392.out 5).trans rfl
    have hcz28_6 : w12.cell? ⟨gb392, 6, none⟩ = some (.string (⟨#[]⟩ : ByteArray)) := (blk_cell BK392.out 6).trans rfl
    have hcz28_7 : w12.cell? ⟨gb392, 7, none⟩ = some (.int .i64 0) := (blk_cell BK392.out 7).trans rfl
    have hcz28_8 : w12.cell? ⟨gb392, 8, none⟩ = some (.int .i64 0) := (blk_cell BK392.out 8).trans rfl
    have hcz28_9 : w12.cell? ⟨gb392, 9, none⟩ = some (.int .i64 0) := (blk_cell BK392.out 9).trans rfl
    have hfz28_0 := blk_frozen BK392.out 0
    have hfz28_1 := blk_frozen BK392.out 1
    have hfz28_2 := blk_frozen BK392.out 2
    have hfz28_3 := blk_frozen BK392.out 3
    have hfz28_4 := blk_frozen BK392.out 4
    have hfz28_5 := blk_frozen BK392.out 5
    have hfz28_6 := blk_frozen BK392.out 6
    have hfz28_7 := blk_frozen BK392.out 7
    have hfz28_8 := blk_frozen BK392.out 8
    have hfz28_9 := blk_frozen BK392.out 9
    have hcz29_0 : w12.cell? ⟨gb377, 0, none⟩ = some (.int .i64 t363) := (blk_cell BK377.out 0).trans rfl
    have hcz29_1 : w12.cell? ⟨gb377, 1, none⟩ = some (.int .i64 t364) := (blk_cell BK377.out 1).trans rfl
    have hcz29_2 : w12.cell? ⟨gb377, 2, none⟩ = some (.int .i64 t365) := (blk_cell BK377.out 2).trans rfl
    have hcz29_3 : w12.cell? ⟨gb377, 3, none⟩ = some (.slice Ao10 t366.length co10) := (blk_cell BK377.out 3).trans rfl
    have hcz29_4 : w12.cell? ⟨gb377, 4, none⟩ = some (.int .i64 t369) := (blk_cell BK377.out 4).trans rfl
    have hcz29_5 : w12.cell? ⟨gb377, 5, none⟩ = some (.string t370) := (blk_cell BK377.out 5).trans rfl
    have hcz29_6 : w12.cell? ⟨gb377, 6, none⟩ = some (.string t371) := (blk_cell BK377.out 6).trans rfl
    have hcz29_7 : w12.cell? ⟨gb377, 7, none⟩ = some (.int .i64 t372) := (blk_cell BK377.out 7).trans rfl
    have hcz29_8 : w12.cell? ⟨gb377, 8, none⟩ = some (.int .i64 t373) := (blk_cell BK377.out 8).trans rfl
    have hcz29_9 : w12.cell? ⟨gb377, 9, none⟩ = some (.int .i64 t374) := (blk_cell BK377.out 9).trans rfl
    have hfz29_0 := blk_frozen BK377.out 0
    have hfz29_1 := blk_frozen BK377.out 1
    have hfz29_2 := blk_frozen BK377.out 2
    have hfz29_3 := blk_frozen BK377.out 3
    have hfz29_4 := blk_frozen BK377.out 4
    have hfz29_5 := blk_frozen BK377.out 5
    have hfz29_6 := blk_frozen BK377.out 6
    have hfz29_7 := blk_frozen BK377.out 7
    have hfz29_8 := blk_frozen BK377.out 8
    have hfz29_9 := blk_frozen BK377.out 9
    go_wp2_with (first | ((with_reducible refine gate_callee (f := 6) rfl ?_); refine goesL_ (some 35) rfl rfl Try.func6 (by kernel_rfl) rfl #[.agg #[.int .i64 t378, .int .i64 t379, .int .i64 t380, .slice Ao15 t381.length co15, .int .i64 t384, .string t385, .string t386, .int .i64 t387, .int .i64 t388, .int .i64 t389], .agg #[.int .i64 t363, .int .i64 t364, .int .i64 t365, .slice Ao10 t366.length co10, .int .i64 t369, .string t370, .string t371, .int .i64 t372, .int .i64 t373, .int .i64 t374]] rfl z15_15 ?_; (with_reducible refine (laws_eqAct.calls k t378 t379 t380 _ _ t381 t384 t385 t386 t387 t388 t389 t363 t364 t365 _ _ t366 t369 t370 t371 t372 t373 t374 false _ ?side1 ?side2 ?side3 ?side4 A16.out).mono ?_); (case side1 => refine (Kd.R_reads' (e := 3) (base := w.heap.size) (ok := fun k_ => (True ∧ some k_ ≠ (.slice Ao10 t366.length co10 : Value).ownBlock)) (n := t381.length) (c := co15) ?_).2.2; exact z15_4); (case side2 => exact (Kd.R_reads' HO383.out).2.1); (case side3 => refine (Kd.R_reads' (e := 3) (base := w.heap.size) (ok := fun k_ => (True ∧ some k_ ≠ (.slice Ao15 t381.length co15 : Value).ownBlock)) (n := t366.length) (c := co10) ?_).2.2; exact z15_5); (case side4 => exact (Kd.R_reads' HO368.out).2.1); rintro e w30 ⟨rfl, hb⟩; refine ⟨_, rfl, ?_⟩; have n0_ := Aside0.mk (Kd.R_below z15_5 hb); have n1_ := Aside0.mk (Kd.R_below z15_4 hb); have n2_ := Aside0.mk (blk_below (g := gb377) (o := .cells #[.int .i64 t363, .int .i64 t364, .int .i64 t365, .slice Ao10 t366.length co10, .int .i64 t369, .string t370, .string t371, .int .i64 t372, .int .i64 t373, .int .i64 t374] 26 (0, 0)) z15_8 hb); have n3_ := Aside0.mk (blk_below (g := gb392) (o := .cells #[.int .i64 t378, .int .i64 t379, .int .i64 t380, .slice Ao15 t381.length co15, .int .i64 t384, .string t385, .string t386, .int .i64 t387, .int .i64 t388, .int .i64 t389] 26 (0, 0)) z15_1 hb); have n4_ := Aside0.mk (below_step z15_10 hb); clear HO368; clear HO383; clear BK377; clear BK392; clear HB; have HO368 := n0_; have HO383 := n1_; have BK377 := n2_; have BK392 := n3_; have HB := n4_; clear n0_ n1_ n2_ n3_ n4_))
    go_meet
    case rel => exact ⟨_, (true), z15_24, H', ⟨by first | omega | exact Nat.le_refl _⟩, ⟨z15_22⟩, ⟨z15_21⟩, ⟨z15_11⟩, ⟨z15_13⟩, ⟨z15_10⟩⟩
  case rest =>
   clear HC6
   try clear c1
   try clear c2
   try clear p2
   try clear c3
   try clear c3b0
   try clear c3b1
   try clear c4
   try clear c5
   try clear c6
   try clear c13
   try clear c17
   try clear c18
   try clear c18b0
   try clear c18b1
   try clear c19
   try clear c23
   try clear c27
   try clear hcz14_0
   try clear hcz14_1
   try clear hcz14_2
   try clear hcz14_3
   try clear hcz14_4
   try clear hcz14_5
   try clear hcz14_6
   try clear hcz14_7
   try clear hcz14_8
   try clear hcz14_9
   try clear hcz20_0
   try clear hcz20_1
   try clear hcz20_2
   try clear hcz20_3
   try clear hcz20_4
   try clear hcz20_5
   try clear hcz20_6
   try clear hcz20_7
   try clear hcz20_8
   try clear hcz20_9
   try clear hcz21_0
   try clear hcz21_1
   try clear hcz21_2
   try clear hcz21_3
   try clear hcz21_4
   try clear hcz21_5
   try clear hcz21_6
   try clear hcz21_7
   try clear hcz21_8
   try clear hcz21_9
   try clear hcz24_0
   try clear hcz24_1
   try clear hcz24_2
   try clear hcz24_3
   try clear hcz24_4
   try clear hcz24_5
   try clear hcz24_6
   try clear hcz24_7
   try clear hcz24_8
   try clear hcz24_9
   try clear hcz25_0
   try clear hcz25_1
   try clear hcz25_2
   try clear hcz25_3
   try clear hcz25_4
   try clear hcz25_5
   try clear hcz25_6
   try clear hcz25_7
   try clear hcz25_8
   try clear hcz25_9
   try clear hcz28_0
   try clear hcz28_1
   try clear hcz28_2
   try clear hcz28_3
   try clear hcz28_4
   try clear hcz28_5
   try clear hcz28_6
   try clear hcz28_7
   try clear hcz28_8
   try clear hcz28_9
   try clear hcz29_0
   try clear hcz29_1
   try clear hcz29_2
   try clear hcz29_3
   try clear hcz29_4
   try clear hcz29_5
   try clear hcz29_6
   try clear hcz29_7
   try clear hcz29_8
   try clear hcz29_9
   try clear hcz9_0
   try clear hcz9_1
   try clear hcz9_2
   try clear hcz9_3
   try clear hcz9_4
   try clear hcz9_5
   try clear hcz9_6
   try clear hcz9_7
   try clear hcz9_8
   try clear hcz9_9
   try clear hfz14_0
   try clear hfz14_1
   try clear hfz14_2
   try clear hfz14_3
   try clear hfz14_4
   try clear hfz14_5
   try clear hfz14_6
   try clear hfz14_7
   try clear hfz14_8
   try clear hfz14_9
   try clear hfz20_0
   try clear hfz20_1
   try clear hfz20_2
   try clear hfz20_3
   try clear hfz20_4
   try clear hfz20_5
   try clear hfz20_6
   try clear hfz20_7
   try clear hfz20_8
   try clear hfz20_9
   try clear hfz21_0
   try clear hfz21_1
   try clear hfz21_2
   try clear hfz21_3
   try clear hfz21_4
   try clear hfz21_5
   try clear hfz21_6
   try clear hfz21_7
   try clear hfz21_8
   try clear hfz21_9
   try clear hfz24_0
   try clear hfz24_1
   try clear hfz24_2
   try clear hfz24_3
   try clear hfz24_4
   try clear hfz24_5
   try clear hfz24_6
   try clear hfz24_7
   try clear hfz24_8
   try clear hfz24_9
   try clear hfz25_0
   try clear hfz25_1
   try clear hfz25_2
   try clear hfz25_3
   try clear hfz25_4
   try clear hfz25_5
   try clear hfz25_6
   try clear hfz25_7
   try clear hfz25_8
   try clear hfz25_9
   try clear hfz28_0
   try clear hfz28_1
   try clear hfz28_2
   try clear hfz28_3
   try clear hfz28_4
   try clear hfz28_5
   try clear hfz28_6
   try clear hfz28_7
   try clear hfz28_8
   try clear hfz28_9
   try clear hfz29_0
   try clear hfz29_1
   try clear hfz29_2
   try clear hfz29_3
   try clear hfz29_4
   try clear hfz29_5
   try clear hfz29_6
   try clear hfz29_7
   try clear hfz29_8
   try clear hfz29_9
   try clear hfz9_0
   try clear hfz9_1
   try clear hfz9_2
   try clear hfz9_3
   try clear hfz9_4
   try clear hfz9_5
   try clear hfz9_6
   try clear hfz9_7
   try clear hfz9_8
   try clear hfz9_9
   obtain ⟨kq, x46_5, rfl, HA, HJ5, HO_378003, HO_393003, BK377, BK392, HB⟩ := hcut
   cases kq with
   | zero => exact absurd HA.out (by simp [laws_FnExactReadAct.j0])
   | succ kj5 =>
    have H := HA.out
    clear HA
    simp only [laws_FnExactReadAct.j0] at H
    by_cases c31 : x46_5 = true
    ·
     subst c31
     rw [if_pos rfl] at H
     exact absurd H (by simp)
    ·
     replace c31 := Bool.eq_false_iff.mpr c31
     subst c31
     rw [if_neg (show ¬ (false = true) by decide)] at H
     replace H := Option.bind_eq_some_iff.mp H
     obtain ⟨⟨t394, t395⟩, A320, H⟩ := H
     (try dsimp only at H)
     have A32 := Aside0.mk A320
     clear A320
     replace H := Option.bind_eq_some_iff.mp H
     obtain ⟨t396, A330, H⟩ := H
     (try dsimp only at H)
     have A33 := Aside0.mk A330
     clear A330
     by_cases c34 : t396 < 0
     ·
      rw [if_pos c34] at H
      have c34b0 : decide (t396 < 0) = true := decide_eq_true c34
      clear c34
      exact absurd H (by simp)
     ·
      rw [if_neg c34] at H
      have c34b0 : decide (t396 < 0) = false := decide_eq_false c34
      clear c34
      by_cases c35 : t396 = t394
      ·
       rw [if_pos c35] at H
       have c35b0 : (t396 == t394) = true := beq_iff_eq.mpr c35
       have c35b1 : (t396 != t394) = false := bne_eq_false_iff_eq.mpr c35
       clear c35
       replace H := Option.bind_eq_some_iff.mp H
       obtain ⟨⟨t397, t398, t399, t400, t403, t404, t405, t406, t407, t408, t409, t410⟩, A360, H⟩ := H
       (try dsimp only at H)
       have A36 := Aside0.mk A360
       clear A360
       have HC37 := Aside0.mk H
       clear H
       have hnb38 := NB392_377.out
       have hnc38 := NB377_392.out
       have hcz39_0 : wc.cell? ⟨gb392, 0, none⟩ = some (.int .i64 t378) := (blk_cell BK392.out 0).trans rfl
       have hcz39_1 : wc.cell? ⟨gb392, 1, none⟩ = some (.int .i64 t379) := (blk_cell BK392.out 1).trans rfl
       have hcz39_2 : wc.cell? ⟨gb392, 2, none⟩ = some (.int .i64 t380) := (blk_cell BK392.out 2).trans rfl
       have hcz39_3 : wc.cell? ⟨gb392, 3, none⟩ = some (.slice Ao15 t381.length co15) := (blk_cell BK392.out 3).trans rfl
       have hcz39_4 : wc.cell? ⟨gb392, 4, none⟩ = some (.int .i64 t384) := (blk_cell BK392.out 4).trans rfl
       have hcz39_5 : wc.cell? ⟨gb392, 5, none⟩ = some (.string t385) := (blk_cell BK392.out 5).trans rfl
       have hcz39_6 : wc.cell? ⟨gb392, 6, none⟩ = some (.string t386) := (blk_cell BK392.out 6).trans rfl
       have hcz39_7 : wc.cell? ⟨gb392, 7, none⟩ = some (.int .i64 t387) := (blk_cell BK392.out 7).trans rfl
       have hcz39_8 : wc.cell? ⟨gb392, 8, none⟩ = some (.int .i64 t388) := (blk_cell BK392.out 8).trans rfl
       have hcz39_9 : wc.cell? ⟨gb392, 9, none⟩ = some (.int .i64 t389) := (blk_cell BK392.out 9).trans rfl
       have hfz39_0 := blk_frozen BK392.out 0
       have hfz39_1 := blk_frozen BK392.out 1
       have hfz39_2 := blk_frozen BK392.out 2
       have hfz39_3 := blk_frozen BK392.out 3
       have hfz39_4 := blk_frozen BK392.out 4
       have hfz39_5 := blk_frozen BK392.out 5
       have hfz39_6 := blk_frozen BK392.out 6
       have hfz39_7 := blk_frozen BK392.out 7
       have hfz39_8 := blk_frozen BK392.out 8
       have hfz39_9 := blk_frozen BK392.out 9
       go_upto_region 16 with (first | ((with_reducible refine gate_callee (f := 7) rfl ?_); refine goesL_ (some 49) rfl rfl Try.func7 (by kernel_rfl) rfl #[.agg #[.int .i64 t378, .int .i64 t379, .int .i64 t380, .slice Ao15 t381.length co15, .int .i64 t384, .string t385, .string t386, .int .i64 t387, .int .i64 t388, .int .i64 t389], .int .i64 1] rfl z15_15 ?_; (with_reducible refine (laws_markAct.calls kj5 t378 t379 t380 (fun k_ => some k_ = (.slice Ao15 t381.length co15 : Value).ownBlock) (.slice Ao15 t381.length co15) t381 t384 t385 t386 t387 t388 t389 1 t394 t395 w _ ?side1 ?side2 A32.out).mono ?_); (case side1 => repeat (first | (with_reducible first | exact HB.out | apply below_alloc | apply pw_below_drewN | apply below_drew1 | refine below_set ?_ GE377.out | refine below_set ?_ GE392.out) | exact HB.out)); (case side2 => exact Kd.R_tight rfl HO_393003.out); rintro e w40 ⟨rfl, hy0, hb, hkp⟩; refine ⟨_, rfl, ?_⟩; have n0_ := Aside0.mk (Kd.R_mono (ok' := fun k_ => some k_ ≠ (.slice Ao15 t381.length co15 : Value).ownBlock) (Kd.R_keptB (HO_378003.out) hkp (fun k_ hk_ hs_ => (hk_) hs_)) (fun k_ hk_ => hk_.1)); have n1_ := Aside0.mk (Kd.R_reok rfl hy0 (fun k_ e_ => HO_393003.out.1 k_ e_)); have n2_ := Aside0.mk (blk_kept z15_11 hkp (fun hs_ => (fun e_ => (Kd.R_ne HO_393003.out BK377.out (by decide)) e_) hs_)); have n3_ := Aside0.mk (blk_kept z15_13 hkp (fun hs_ => (fun e_ => (Kd.R_ne HO_393003.out BK392.out (by decide)) e_) hs_)); have n4_ := Aside0.mk (hb); clear HO_378003; clear HO_393003; clear BK377; clear BK392; clear HB; have HO_378003 := n0_; have HO_393003 := n1_; have BK377 := n2_; have BK392 := n3_; have HB := n4_; clear n0_ n1_ n2_ n3_ n4_; (try clear hb); (try clear hkp); (try clear hy0); have hcz41_0 : w40.cell? ⟨gb392, 0, none⟩ = some (.int .i64 t378) := (blk_cell BK392.out 0).trans rfl; have hcz41_1 : w40.cell? ⟨gb392, 1, none⟩ = some (.int .i64 t379) := (blk_cell BK392.out 1).trans rfl; have hcz41_2 : w40.cell? ⟨gb392, 2, none⟩ = some (.int .i64 t380) := (blk_cell BK392.out 2).trans rfl; have hcz41_3 : w40.cell? ⟨gb392, 3, none⟩ = some (.slice Ao15 t381.length co15) := (blk_cell BK392.out 3).trans rfl; have hcz41_4 : w40.cell? ⟨gb392, 4, none⟩ = some (.int .i64 t384) := (blk_cell BK392.out 4).trans rfl; have hcz41_5 : w40.cell? ⟨gb392, 5, none⟩ = some (.string t385) := (blk_cell BK392.out 5).trans rfl; have hcz41_6 : w40.cell? ⟨gb392, 6, none⟩ = some (.string t386) := (blk_cell BK392.out 6).trans rfl; have hcz41_7 : w40.cell? ⟨gb392, 7, none⟩ = some (.int .i64 t387) := (blk_cell BK392.out 7).trans rfl; have hcz41_8 : w40.cell? ⟨gb392, 8, none⟩ = some (.int .i64 t388) := (blk_cell BK392.out 8).trans rfl; have hcz41_9 : w40.cell? ⟨gb392, 9, none⟩ = some (.int .i64 t389) := (blk_cell BK392.out 9).trans rfl; have hfz41_0 := blk_frozen BK392.out 0; have hfz41_1 := blk_frozen BK392.out 1; have hfz41_2 := blk_frozen BK392.out 2; have hfz41_3 := blk_frozen BK392.out 3; have hfz41_4 := blk_frozen BK392.out 4; have hfz41_5 := blk_frozen BK392.out 5; have hfz41_6 := blk_frozen BK392.out 6; have hfz41_7 := blk_frozen BK392.out 7; have hfz41_8 := blk_frozen BK392.out 8; have hfz41_9 := blk_frozen BK392.out 9) | ((with_reducible refine gate_callee (f := 8) rfl ?_); refine goesL_ (some 52) rfl rfl Try.func8 (by kernel_rfl) rfl #[.agg #[.int .i64 t378, .int .i64 t379, .int .i64 t380, .slice Ao15 t395.length co15, .int .i64 t384, .string t385, .string t386, .int .i64 t387, .int .i64 t388, .int .i64 t389], .int .i64 1] rfl (by (try simp only [List.map_toArray, List.map_cons, List.map_nil]); first | done | (rw [show t395.length = t381.length from (Kd.R_reads' HO_393003.out).1.symm] <;> rfl) | rfl | (simp only [List.length_drop, List.length_take]; rfl)) ?_; (with_reducible refine (laws_heldAct.calls kj5 t378 t379 t380 _ _ t395 t384 t385 t386 t387 t388 t389 1 t396 _ ?side1 ?side2 A33.out).mono ?_); (case side1 => repeat (first | exact (Kd.R_reads' HO_393003.out).2.2 | (with_reducible refine Kd.C_alloc ?_ _) | (with_reducible refine Kd.C_drewN ?_ _) | (with_reducible refine Kd.C_drew ?_))); (case side2 => rw [show t395.length = t381.length from (Kd.R_reads' HO_393003.out).1.symm]; exact (Kd.R_reads' HO_393003.out).2.1); rintro e w42 ⟨rfl, hb⟩; refine ⟨_, rfl, ?_⟩; have n0_ := Aside0.mk (Kd.R_below z15_17 hb); have n1_ := Aside0.mk (Kd.R_below z15_16 hb); have n2_ := Aside0.mk (blk_below (g := gb377) (o := .cells #[.int .i64 t363, .int .i64 t364, .int .i64 t365, .slice Ao10 t366.length co10, .int .i64 t369, .string t370, .string t371, .int .i64 t372, .int .i64 t373, .int .i64 t374] 26 (0, 0)) z15_11 hb); have n3_ := Aside0.mk (blk_below (g := gb392) (o := .cells #[.int .i64 t378, .int .i64 t379, .int .i64 t380, .slice Ao15 t381.length co15, .int .i64 t384, .string t385, .string t386, .int .i64 t387, .int .i64 t388, .int .i64 t389] 26 (0, 0)) z15_13 hb); have n4_ := Aside0.mk (below_step z15_10 hb); clear HO_378003; clear HO_393003; clear BK377; clear BK392; clear HB; have HO_378003 := n0_; have HO_393003 := n1_; have BK377 := n2_; have BK392 := n3_; have HB := n4_; clear n0_ n1_ n2_ n3_ n4_) | ((with_reducible refine gate_callee (f := 5) rfl ?_); refine goesL_ (some 61) rfl rfl Try.func5 (by kernel_rfl) rfl #[.string a0, .int .i64 a1] rfl z15_15 ?_; (with_reducible refine (impl_ReadAct.calls kj5 a0 a1 t397 t398 t399 t400 t403 t404 t405 t406 t407 t408 t409 t410 _ A36.out).mono ?_); rintro e w43 ⟨v401, rfl, ho0, hb⟩; refine ⟨_, rfl, ?_⟩; have n0_ := Aside0.mk (Kd.R_elder' z15_17 (Kd.R_base ho0) hb); have n1_ := Aside0.mk (Kd.R_elder' z15_16 (Kd.R_base ho0) hb); have n2_ := Aside0.mk (Kd.R_lower (Kd.R_new' (Kd.R_new' ho0 (Kd.R_lt z15_17)) (Kd.R_lt z15_16)) (below_size z15_10)); have n3_ := Aside0.mk (blk_below (g := gb377) (o := .cells #[.int .i64 t363, .int .i64 t364, .int .i64 t365, .slice Ao10 t366.length co10, .int .i64 t369, .string t370, .string t371, .int .i64 t372, .int .i64 t373, .int .i64 t374] 26 (0, 0)) z15_11 hb); have n4_ := Aside0.mk (blk_below (g := gb392) (o := .cells #[.int .i64 t378, .int .i64 t379, .int .i64 t380, .slice Ao15 t381.length co15, .int .i64 t384, .string t385, .string t386, .int .i64 t387, .int .i64 t388, .int .i64 t389] 26 (0, 0)) z15_13 hb); have n5_ := Aside0.mk (below_step z15_10 hb); clear HO_378003; clear HO_393003; clear BK377; clear BK392; clear HB; have HO_378003 := n0_; have HO_393003 := n1_; have HO402 := n2_; have BK377 := n3_; have BK392 := n4_; have HB := n5_; clear n0_ n1_ n2_ n3_ n4_ n5_; (try clear ho0)) | ((with_reducible refine gate_dst (N := 13) rfl ?_); refine box_event ?hg (N := 13) ?hd (cs := #[.int .i64 0, .int .i64 0, .int .i64 0, .slice none 0 0, .int .i64 0, .string (⟨#[]⟩ : ByteArray), .string (⟨#[]⟩ : ByteArray), .int .i64 0, .int .i64 0, .int .i64 0]) (t := 26) ?hr ?_; (case hd => rfl); (case hg => rfl); (case hr => first | (go_simp; done) | (go_simp; rfl)); intro gb411 hg w44 hbox hb; have n0_ := Aside0.mk (Kd.R_below z15_17 hb); have n1_ := Aside0.mk (Kd.R_below z15_16 hb); have n2_ := Aside0.mk (Kd.R_below (by (with_reducible repeat (first | apply Kd.R_alloc | apply Kd.R_drewN | apply Kd.R_drew)); exact HO402.out) hb); have n3_ := Aside0.mk (blk_below (g := gb377) (o := .cells #[.int .i64 t363, .int .i64 t364, .int .i64 t365, .slice Ao10 t366.length co10, .int .i64 t369, .string t370, .string t371, .int .i64 t372, .int .i64 t373, .int .i64 t374] 26 (0, 0)) z15_11 hb); have n4_ := Aside0.mk (blk_below (g := gb392) (o := .cells #[.int .i64 t378, .int .i64 t379, .int .i64 t380, .slice Ao15 t381.length co15, .int .i64 t384, .string t385, .string t386, .int .i64 t387, .int .i64 t388, .int .i64 t389] 26 (0, 0)) z15_13 hb); have n5_ := Aside0.mk (below_step z15_10 hb); have n6_ := Aside0.mk (hbox); have n7_ := Aside0.mk ((by rw [hg]; exact (below_size z15_10) : w.heap.size ≤ gb411)); have n8_ := Aside0.mk ((by rw [hg]; exact (below_size z15_10) : w.heap.size ≤ gb411)); have n9_ := Aside0.mk ((by rw [hg]; exact Nat.ne_of_lt (blk_lt (g := gb377) (o := .cells #[.int .i64 t363, .int .i64 t364, .int .i64 t365, .slice Ao10 t366.length co10, .int .i64 t369, .string t370, .string t371, .int .i64 t372, .int .i64 t373, .int .i64 t374] 26 (0, 0)) z15_11) : gb377 ≠ gb411)); have n10_ := Aside0.mk ((by rw [hg]; exact Nat.ne_of_gt (blk_lt (g := gb377) (o := .cells #[.int .i64 t363, .int .i64 t364, .int .i64 t365, .slice Ao10 t366.length co10, .int .i64 t369, .string t370, .string t371, .int .i64 t372, .int .i64 t373, .int .i64 t374] 26 (0, 0)) z15_11) : gb411 ≠ gb377)); have n11_ := Aside0.mk ((by rw [hg]; exact Nat.ne_of_lt (blk_lt (g := gb392) (o := .cells #[.int .i64 t378, .int .i64 t379, .int .i64 t380, .slice Ao15 t381.length co15, .int .i64 t384, .string t385, .string t386, .int .i64 t387, .int .i64 t388, .int .i64 t389] 26 (0, 0)) z15_13) : gb392 ≠ gb411)); have n12_ := Aside0.mk ((by rw [hg]; exact Nat.ne_of_gt (blk_lt (g := gb392) (o := .cells #[.int .i64 t378, .int .i64 t379, .int .i64 t380, .slice Ao15 t381.length co15, .int .i64 t384, .string t385, .string t386, .int .i64 t387, .int .i64 t388, .int .i64 t389] 26 (0, 0)) z15_13) : gb411 ≠ gb392)); clear HO_378003; clear HO_393003; clear HO402; clear BK377; clear BK392; clear HB; have HO_378003 := n0_; have HO_393003 := n1_; have HO402 := n2_; have BK377 := n3_; have BK392 := n4_; have HB := n5_; have BK411 := n6_; have GW411 := n7_; have GE411 := n8_; have NB377_411 := n9_; have NB411_377 := n10_; have NB392_411 := n11_; have NB411_392 := n12_; clear n0_ n1_ n2_ n3_ n4_ n5_ n6_ n7_ n8_ n9_ n10_ n11_ n12_; clear hb hbox hg; have hnb45 := NB411_377.out; have hnc45 := NB377_411.out; have hnb46 := NB411_392.out; have hnc46 := NB392_411.out; have hcz47_0 : w44.cell? ⟨gb411, 0, none⟩ = some (.int .i64 0) := (blk_cell BK411.out 0).trans rfl; have hcz47_1 : w44.cell? ⟨gb411, 1, none⟩ = some (.int .i64 0) := (blk_cell BK411.out 1).trans rfl; have hcz47_2 : w44.cell? ⟨gb411, 2, none⟩ = some (.int .i64 0) := (blk_cell BK411.out 2).trans rfl; have hcz47_3 : w44.cell? ⟨gb411, 3, none⟩ = some (.slice none 0 0) := (blk_cell BK411.out 3).trans rfl; have hcz47_4 : w44.cell? ⟨gb411, 4, none⟩ = some (.int .i64 0) := (blk_cell BK411.out 4).trans rfl; have hcz47_5 : w44.cell? ⟨gb411, 5, none⟩ = some (.string (⟨#[]⟩ : ByteArray)) := (blk_cell BK411.out 5).trans rfl; have hcz47_6 : w44.cell? ⟨gb411, 6, none⟩ = some (.string (⟨#[]⟩ : ByteArray)) := (blk_cell BK411.out 6).trans rfl; have hcz47_7 : w44.cell? ⟨gb411, 7, none⟩ = some (.int .i64 0) := (blk_cell BK411.out 7).trans rfl; have hcz47_8 : w44.cell? ⟨gb411, 8, none⟩ = some (.int .i64 0) := (blk_cell BK411.out 8).trans rfl; have hcz47_9 : w44.cell? ⟨gb411, 9, none⟩ = some (.int .i64 0) := (blk_cell BK411.out 9).trans rfl; have hfz47_0 := blk_frozen BK411.out 0; have hfz47_1 := blk_frozen BK411.out 1; have hfz47_2 := blk_frozen BK411.out 2; have hfz47_3 := blk_frozen BK411.out 3; have hfz47_4 := blk_frozen BK411.out 4; have hfz47_5 := blk_frozen BK411.out 5; have hfz47_6 := blk_frozen BK411.out 6; have hfz47_7 := blk_frozen BK411.out 7; have hfz47_8 := blk_frozen BK411.out 8; have hfz47_9 := blk_frozen BK411.out 9; obtain ⟨Ao48, co48, eo48⟩ := Kd.R_slice HO402.out; subst eo48))
       (try simp only [Act.put, List.setIfInBounds_toArray, List.set_cons_zero, List.set_cons_succ])
       go_cut [78] (fun v78 wc => ∃ (kq : Nat) (x78_36 : Bool), v78 = .bool x78_36 ∧ Aside0 (laws_FnExactReadAct.j1 kq t394 x78_36 t378 t379 t380 t395 t384 t385 t386 t387 t388 t389 = some true) ∧ Aside0 (kq ≤ kj5) ∧ Aside0 (Kd.R (Kd.int .i64) 3 wc w.heap.size (fun k_ => some k_ ≠ ((.slice Ao15 t381.length co15) : Value).ownBlock ∧ some k_ ≠ ((.slice Ao48 t400.length co48) : Value).ownBlock) (.slice Ao10 t366.length co10) t366) ∧ Aside0 (Kd.R (Kd.int .i64) 3 wc w.heap.size (fun k_ => some k_ ≠ ((.slice Ao10 t366.length co10) : Value).ownBlock ∧ some k_ ≠ ((.slice Ao48 t400.length co48) : Value).ownBlock) (.slice Ao15 t381.length co15) t395) ∧ Aside0 (Kd.R (Kd.int .i64) 3 wc w.heap.size (fun k_ => some k_ ≠ ((.slice Ao10 t366.length co10) : Value).ownBlock ∧ some k_ ≠ ((.slice Ao15 t381.length co15) : Value).ownBlock) (.slice Ao48 t400.length co48) t400) ∧ Aside0 (wc.heap[gb377]? = some (.cells #[.int .i64 t363, .int .i64 t364, .int .i64 t365, (.slice Ao10 t366.length co10), .int .i64 t369, .string t370, .string t371, .int .i64 t372, .int .i64 t373, .int .i64 t374] 26 (0, 0))) ∧ Aside0 (wc.heap[gb392]? = some (.cells #[.int .i64 t378, .int .i64 t379, .int .i64 t380, (.slice Ao15 t381.length co15), .int .i64 t384, .string t385, .string t386, .int .i64 t387, .int .i64 t388, .int .i64 t389] 26 (0, 0))) ∧ Aside0 (wc.heap[gb411]? = some (.cells #[.int .i64 t397, .int .i64 t398, .int .i64 t399, (.slice Ao48 t400.length co48), .int .i64 t403, .string t404, .string t405, .int .i64 t406, .int .i64 t407, .int .i64 t408] 26 (0, 0))) ∧ Aside0 (Below w.heap.size w wc))
       case first =>
        have H := HC37.out
        clear HC37
        replace H := Option.bind_eq_some_iff.mp H
        obtain ⟨t412, A490, H⟩ := H
        (try dsimp only at H)
        have A49 := Aside0.mk A490
        clear A490
        by_cases c50 : t412 = true
        ·
         subst c50
         rw [if_pos rfl] at H
         by_cases c51 : t409 = t375
         ·
          rw [if_pos c51] at H
          have c51b0 : (t409 == t375) = true := beq_iff_eq.mpr c51
          have c51b1 : (t409 != t375) = false := bne_eq_false_iff_eq.mpr c51
          clear c51
          (first | rw [c51b0] | (simp only [i64_w, i32_w]; rw [c51b0]) | skip)
          have H' := Aside0.mk H
          clear H
          have hnb52 := NB411_377.out
          have hnc52 := NB377_411.out
          have hnb53 := NB411_392.out
          have hnc53 := NB392_411.out
          have hcz54_0 : w44.cell? ⟨gb411, 0, none⟩ = some (.int .i64 0) := (blk_cell BK411.out 0).trans rfl
          have hcz54_1 : w44.cell? ⟨gb411, 1, none⟩ = some (.int .i64 0) := (blk_cell BK411.out 1).trans rfl
          have hcz54_2 : w44.cell? ⟨gb411, 2, none⟩ = some (.int .i64 0) := (blk_cell BK411.out 2).trans rfl
          have hcz54_3 : w44.cell? ⟨gb411, 3, none⟩ = some (.slice none 0 0) := (blk_cell BK411.out 3).trans rfl
          have hcz54_4 : w44.cell? ⟨gb411, 4, none⟩ = some (.int .i64 0) := (blk_cell BK411.out 4).trans rfl
          have hcz54_5 : w44.cell? ⟨gb411, 5, none⟩ = some (.string (⟨#[]⟩ : ByteArray)) := (blk_cell BK411.out 5).trans rfl
          have hcz54_6 : w44.cell? ⟨gb411, 6, none⟩ = some (.string (⟨#[]⟩ : ByteArray)) := (blk_cell BK411.out 6).trans rfl
          have hcz54_7 : w44.cell? ⟨gb411, 7, none⟩ = some (.int .i64 0) := (blk_cell BK411.out 7).trans rfl
          have hcz54_8 : w44.cell? ⟨gb411, 8, none⟩ = some (.int .i64 0) := (blk_cell BK411.out 8).trans rfl
          have hcz54_9 : w44.cell? ⟨gb411, 9, none⟩ = some (.int .i64 0) := (blk_cell BK411.out 9).trans rfl
          have hfz54_0 := blk_frozen BK411.out 0
          have hfz54_1 := blk_frozen BK411.out 1
          have hfz54_2 := blk_frozen BK411.out 2
          have hfz54_3 := blk_frozen BK411.out 3
          have hfz54_4 := blk_frozen BK411.out 4
          have hfz54_5 := blk_frozen BK411.out 5
          have hfz54_6 := blk_frozen BK411.out 6
          have hfz54_7 := blk_frozen BK411.out 7
          have hfz54_8 := blk_frozen BK411.out 8
          have hfz54_9 := blk_frozen BK411.out 9
          have hnb55 := NB377_392.out
          have hnc55 := NB392_377.out
          have hcz56_0 : w44.cell? ⟨gb377, 0, none⟩ = some (.int .i64 t363) := (blk_cell BK377.out 0).trans rfl
          have hcz56_1 : w44.cell? ⟨gb377, 1, none⟩ = some (.int .i64 t364) := (blk_cell BK377.out 1).trans rfl
          have hcz56_2 : w44.cell? ⟨gb377, 2, none⟩ = some (.int .i64 t365) := (blk_cell BK377.out 2).trans rfl
          have hcz56_3 : w44.cell? ⟨gb377, 3, none⟩ = some (.slice Ao10 t366.length co10) := (blk_cell BK377.out 3).trans rfl
          have hcz56_4 : w44.cell? ⟨gb377, 4, none⟩ = some (.int .i64 t369) := (blk_cell BK377.out 4).trans rfl
          have hcz56_5 : w44.cell? ⟨gb377, 5, none⟩ = some (.string t370) := (blk_cell BK377.out 5).trans rfl
          have hcz56_6 : w44.cell? ⟨gb377, 6, none⟩ = some (.string t371) := (blk_cell BK377.out 6).trans rfl
          have hcz56_7 : w44.cell? ⟨gb377, 7, none⟩ = some (.int .i64 t372) := (blk_cell BK377.out 7).trans rfl
          have hcz56_8 : w44.cell? ⟨gb377, 8, none⟩ = some (.int .i64 t373) := (blk_cell BK377.out 8).trans rfl
          have hcz56_9 : w44.cell? ⟨gb377, 9, none⟩ = some (.int .i64 t374) := (blk_cell BK377.out 9).trans rfl
          have hfz56_0 := blk_frozen BK377.out 0
          have hfz56_1 := blk_frozen BK377.out 1
          have hfz56_2 := blk_frozen BK377.out 2
          have hfz56_3 := blk_frozen BK377.out 3
          have hfz56_4 := blk_frozen BK377.out 4
          have hfz56_5 := blk_frozen BK377.out 5
          have hfz56_6 := blk_frozen BK377.out 6
          have hfz56_7 := blk_frozen BK377.out 7
          have hfz56_8 := blk_frozen BK377.out 8
          have hfz56_9 := blk_frozen BK377.out 9
          go_wp2_with (first | ((with_reducible refine gate_callee (f := 6) rfl ?_); refine goesL_ (some 67) rfl rfl Try.func6 (by kernel_rfl) rfl #[.agg #[.int .i64 t397, .int .i64 t398, .int .i64 t399, .slice Ao48 t400.length co48, .int .i64 t403, .string t404, .string t405, .int .i64 t406, .int .i64 t407, .int .i64 t408], .agg #[.int .i64 t363, .int .i64 t364, .int .i64 t365, .slice Ao10 t366.length co10, .int .i64 t369, .string t370, .string t371, .int .i64 t372, .int .i64 t373, .int .i64 t374]] rfl z15_15 ?_; (with_reducible refine (laws_eqAct.calls kj5 t397 t398 t399 _ _ t400 t403 t404 t405 t406 t407 t408 t363 t364 t365 _ _ t366 t369 t370 t371 t372 t373 t374 true _ ?side1 ?side2 ?side3 ?side4 A49.out).mono ?_); (case side1 => refine (Kd.R_reads' (e := 3) (base := w.heap.size) (ok := fun k_ => ((True ∧ some k_ ≠ (.slice Ao10 t366.length co10 : Value).ownBlock) ∧ some k_ ≠ (.slice Ao15 t381.length co15 : Value).ownBlock)) (n := t400.length) (c := co48) ?_).2.2; exact z15_3); (case side2 => exact (Kd.R_reads' HO402.out).2.1); (case side3 => refine (Kd.R_reads' (e := 3) (base := w.heap.size) (ok := fun k_ => (some k_ ≠ (.slice Ao15 t381.length co15 : Value).ownBlock ∧ some k_ ≠ (.slice Ao48 t400.length co48 : Value).ownBlock)) (n := t366.length) (c := co10) ?_).2.2; exact z15_2); (case side4 => exact (Kd.R_reads' HO_378003.out).2.1); rintro e w57 ⟨rfl, hb⟩; refine ⟨_, rfl, ?_⟩; have n0_ := Aside0.mk (Kd.R_below z15_2 hb); have n1_ := Aside0.mk (Kd.R_below z15_9 hb); have n2_ := Aside0.mk (Kd.R_below z15_3 hb); have n3_ := Aside0.mk (blk_below (g := gb377) (o := .cells #[.int .i64 t363, .int .i64 t364, .int .i64 t365, .slice Ao10 t366.length co10, .int .i64 t369, .string t370, .string t371, .int .i64 t372, .int .i64 t373, .int .i64 t374] 26 (0, 0)) z15_7 hb); have n4_ := Aside0.mk (blk_below (g := gb392) (o := .cells #[.int .i64 t378, .int .i64 t379, .int .i64 t380, .slice Ao15 t381.length co15, .int .i64 t384, .string t385, .string t386, .int .i64 t387, .int .i64 t388, .int .i64 t389] 26 (0, 0)) z15_6 hb); have n5_ := Aside0.mk (blk_below (g := gb411) (o := .cells #[.int .i64 t397, .int .i64 t398, .int .i64 t399, .slice Ao48 t400.length co48, .int .i64 t403, .string t404, .string t405, .int .i64 t406, .int .i64 t407, .int .i64 t408] 26 (0, 0)) z15_0 hb); have n6_ := Aside0.mk (below_step z15_12 hb); clear HO_378003; clear HO_393003; clear HO402; clear BK377; clear BK392; clear BK411; clear HB; have HO_378003 := n0_; have HO_393003 := n1_; have HO402 := n2_; have BK377 := n3_; have BK392 := n4_; have BK411 := n5_; have HB := n6_; clear n0_ n1_ n2_ n3_ n4_ n5_ n6_))
          go_meet
          case rel => exact ⟨_, ((t410 != t376)), z15_24, H', ⟨by have := HJ5.out; first | omega | exact Nat.le_refl _⟩, ⟨z15_17⟩, ⟨z15_16⟩, ⟨z15_23⟩, ⟨z15_11⟩, ⟨z15_13⟩, ⟨z15_20⟩, ⟨z15_12⟩⟩
         ·
          rw [if_neg c51] at H
          have c51b0 : (t409 == t375) = false := beq_eq_false_iff_ne.mpr c51
          have c51b1 : (t409 != t375) = true := bne_iff_ne.mpr c51
          (first | rw [c51b0] | (simp only [i64_w, i32_w]; rw [c51b0]) | skip)
          have H' := Aside0.mk H
          clear H
          have hnb58 := NB411_377.out
          have hnc58 := NB377_411.out
          have hnb59 := NB411_392.out
          have hnc59 := NB392_411.out
          have hcz60_0 : w44.cell? ⟨gb411, 0, none⟩ = some (.int .i64 0) := (blk_cell BK411.out 0).trans rfl
          have hcz60_1 : w44.cell? ⟨gb411, 1, none⟩ = some (.int .i64 0) := (blk_cell BK411.out 1).trans rfl
          have hcz60_2 : w44.cell? ⟨gb411, 2, none⟩ = some (.int .i64 0) := (blk_cell BK411.out 2).trans rfl
          have hcz60_3 : w44.cell? ⟨gb411, 3, none⟩ = some (.slice none 0 0) := (blk_cell BK411.out 3).trans rfl
          have hcz60_4 : w44.cell? ⟨gb411, 4, none⟩ = some (.int .i64 0) := (blk_cell BK411.out 4).trans rfl
          have hcz60_5 : w44.cell? ⟨gb411, 5, none⟩ = some (.string (⟨#[]⟩ : ByteArray)) := (blk_cell BK411.out 5).trans rfl
          have hcz60_6 : w44.cell? ⟨gb411, 6, none⟩ = some (.string (⟨#[]⟩ : ByteArray)) := (blk_cell BK411.out 6).trans rfl
          have hcz60_7 : w44.cell? ⟨gb411, 7, none⟩ = some (.int .i64 0) := (blk_cell BK411.out 7).trans rfl
          have hcz60_8 : w44.cell? ⟨gb411, 8, none⟩ = some (.int .i64 0) := (blk_cell BK411.out 8).trans rfl
          have hcz60_9 : w44.cell? ⟨gb411, 9, none⟩ = some (.int .i64 0) := (blk_cell BK411.out 9).trans rfl
          have hfz60_0 := blk_frozen BK411.out 0
          have hfz60_1 := blk_frozen BK411.out 1
          have hfz60_2 := blk_frozen BK411.out 2
          have hfz60_3 := blk_frozen BK411.out 3
          have hfz60_4 := blk_frozen BK411.out 4
          have hfz60_5 := blk_frozen BK411.out 5
          have hfz60_6 := blk_frozen BK411.out 6
          have hfz60_7 := blk_frozen BK411.out 7
          have hfz60_8 := blk_frozen BK411.out 8
          have hfz60_9 := blk_frozen BK411.out 9
          have hnb61 := NB377_392.out
          have hnc61 := NB392_377.out
          have hcz62_0 : w44.cell? ⟨gb377, 0, none⟩ = some (.int .i64 t363) := (blk_cell BK377.out 0).trans rfl
          have hcz62_1 : w44.cell? ⟨gb377, 1, none⟩ = some (.int .i64 t364) := (blk_cell BK377.out 1).trans rfl
          have hcz62_2 : w44.cell? ⟨gb377, 2, none⟩ = some (.int .i64 t365) := (blk_cell BK377.out 2).trans rfl
          have hcz62_3 : w44.cell? ⟨gb377, 3, none⟩ = some (.slice Ao10 t366.length co10) := (blk_cell BK377.out 3).trans rfl
          have hcz62_4 : w44.cell? ⟨gb377, 4, none⟩ = some (.int .i64 t369) := (blk_cell BK377.out 4).trans rfl
          have hcz62_5 : w44.cell? ⟨gb377, 5, none⟩ = some (.string t370) := (blk_cell BK377.out 5).trans rfl
          have hcz62_6 : w44.cell? ⟨gb377, 6, none⟩ = some (.string t371) := (blk_cell BK377.out 6).trans rfl
          have hcz62_7 : w44.cell? ⟨gb377, 7, none⟩ = some (.int .i64 t372) := (blk_cell BK377.out 7).trans rfl
          have hcz62_8 : w44.cell? ⟨gb377, 8, none⟩ = some (.int .i64 t373) := (blk_cell BK377.out 8).trans rfl
          have hcz62_9 : w44.cell? ⟨gb377, 9, none⟩ = some (.int .i64 t374) := (blk_cell BK377.out 9).trans rfl
          have hfz62_0 := blk_frozen BK377.out 0
          have hfz62_1 := blk_frozen BK377.out 1
          have hfz62_2 := blk_frozen BK377.out 2
          have hfz62_3 := blk_frozen BK377.out 3
          have hfz62_4 := blk_frozen BK377.out 4
          have hfz62_5 := blk_frozen BK377.out 5
          have hfz62_6 := blk_frozen BK377.out 6
          have hfz62_7 := blk_frozen BK377.out 7
          have hfz62_8 := blk_frozen BK377.out 8
          have hfz62_9 := blk_frozen BK377.out 9
          go_wp2_with (first | ((with_reducible refine gate_callee (f := 6) rfl ?_); refine goesL_ (some 67) rfl rfl Try.func6 (by kernel_rfl) rfl #[.agg #[.int .i64 t397, .int .i64 t398, .int .i64 t399, .slice Ao48 t400.length co48, .int .i64 t403, .string t404, .string t405, .int .i64 t406, .int .i64 t407, .int .i64 t408], .agg #[.int .i64 t363, .int .i64 t364, .int .i64 t365, .slice Ao10 t366.length co10, .int .i64 t369, .string t370, .string t371, .int .i64 t372, .int .i64 t373, .int .i64 t374]] rfl z15_15 ?_; (with_reducible refine (laws_eqAct.calls kj5 t397 t398 t399 _ _ t400 t403 t404 t405 t406 t407 t408 t363 t364 t365 _ _ t366 t369 t370 t371 t372 t373 t374 true _ ?side1 ?side2 ?side3 ?side4 A49.out).mono ?_); (case side1 => refine (Kd.R_reads' (e := 3) (base := w.heap.size) (ok := fun k_ => ((True ∧ some k_ ≠ (.slice Ao10 t366.length co10 : Value).ownBlock) ∧ some k_ ≠ (.slice Ao15 t381.length co15 : Value).ownBlock)) (n := t400.length) (c := co48) ?_).2.2; exact z15_3); (case side2 => exact (Kd.R_reads' HO402.out).2.1); (case side3 => refine (Kd.R_reads' (e := 3) (base := w.heap.size) (ok := fun k_ => (some k_ ≠ (.slice Ao15 t381.length co15 : Value).ownBlock ∧ some k_ ≠ (.slice Ao48 t400.length co48 : Value).ownBlock)) (n := t366.length) (c := co10) ?_).2.2; exact z15_2); (case side4 => exact (Kd.R_reads' HO_378003.out).2.1); rintro e w63 ⟨rfl, hb⟩; refine ⟨_, rfl, ?_⟩; have n0_ := Aside0.mk (Kd.R_below z15_2 hb); have n1_ := Aside0.mk (Kd.R_below z15_9 hb); have n2_ := Aside0.mk (Kd.R_below z15_3 hb); have n3_ := Aside0.mk (blk_below (g := gb377) (o := .cells #[.int .i64 t363, .int .i64 t364, .int .i64 t365, .slice Ao10 t366.length co10, .int .i64 t369, .string t370, .string t371, .int .i64 t372, .int .i64 t373, .int .i64 t374] 26 (0, 0)) z15_7 hb); have n4_ := Aside0.mk (blk_below (g := gb392) (o := .cells #[.int .i64 t378, .int .i64 t379, .int .i64 t380, .slice Ao15 t381.length co15, .int .i64 t384, .string t385, .string t386, .int .i64 t387, .int .i64 t388, .int .i64 t389] 26 (0, 0)) z15_6 hb); have n5_ := Aside0.mk (blk_below (g := gb411) (o := .cells #[.int .i64 t397, .int .i64 t398, .int .i64 t399, .slice Ao48 t400.length co48, .int .i64 t403, .string t404, .string t405, .int .i64 t406, .int .i64 t407, .int .i64 t408] 26 (0, 0)) z15_0 hb); have n6_ := Aside0.mk (below_step z15_12 hb); clear HO_378003; clear HO_393003; clear HO402; clear BK377; clear BK392; clear BK411; clear HB; have HO_378003 := n0_; have HO_393003 := n1_; have HO402 := n2_; have BK377 := n3_; have BK392 := n4_; have BK411 := n5_; have HB := n6_; clear n0_ n1_ n2_ n3_ n4_ n5_ n6_))
          go_meet
          case rel => exact ⟨_, (true), z15_24, H', ⟨by have := HJ5.out; first | omega | exact Nat.le_refl _⟩, ⟨z15_17⟩, ⟨z15_16⟩, ⟨z15_23⟩, ⟨z15_11⟩, ⟨z15_13⟩, ⟨z15_20⟩, ⟨z15_12⟩⟩
        ·
         replace c50 := Bool.eq_false_iff.mpr c50
         subst c50
         rw [if_neg (show ¬ (false = true) by decide)] at H
         have H' := Aside0.mk H
         clear H
         have hnb64 := NB411_377.out
         have hnc64 := NB377_411.out
         have hnb65 := NB411_392.out
         have hnc65 := NB392_411.out
         have hcz66_0 : w44.cell? ⟨gb411, 0, none⟩ = some (.int .i64 0) := (blk_cell BK411.out 0).trans rfl
         have hcz66_1 : w44.cell? ⟨gb411, 1, none⟩ = some (.int .i64 0) := (blk_cell BK411.out 1).trans rfl
         have hcz66_2 : w44.cell? ⟨gb411, 2, none⟩ = some (.int .i64 0) := (blk_cell BK411.out 2).trans rfl
         have hcz66_3 : w44.cell? ⟨gb411, 3, none⟩ = some (.slice none 0 0) := (blk_cell BK411.out 3).trans rfl
         have hcz66_4 : w44.cell? ⟨gb411, 4, none⟩ = some (.int .i64 0) := (blk_cell BK411.out 4).trans rfl
         have hcz66_5 : w44.cell? ⟨gb411, 5, none⟩ = some (.string (⟨#[]⟩ : ByteArray)) := (blk_cell BK411.out 5).trans rfl
         have hcz66_6 : w44.cell? ⟨gb411, 6, none⟩ = some (.string (⟨#[]⟩ : ByteArray)) := (blk_cell BK411.out 6).trans rfl
         have hcz66_7 : w44.cell? ⟨gb411, 7, none⟩ = some (.int .i64 0) := (blk_cell BK411.out 7).trans rfl
         have hcz66_8 : w44.cell? ⟨gb411, 8, none⟩ = some (.int .i64 0) := (blk_cell BK411.out 8).trans rfl
         have hcz66_9 : w44.cell? ⟨gb411, 9, none⟩ = some (.int .i64 0) := (blk_cell BK411.out 9).trans rfl
         have hfz66_0 := blk_frozen BK411.out 0
         have hfz66_1 := blk_frozen BK411.out 1
         have hfz66_2 := blk_frozen BK411.out 2
         have hfz66_3 := blk_frozen BK411.out 3
         have hfz66_4 := blk_frozen BK411.out 4
         have hfz66_5 := blk_frozen BK411.out 5
         have hfz66_6 := blk_frozen BK411.out 6
         have hfz66_7 := blk_frozen BK411.out 7
         have hfz66_8 := blk_frozen BK411.out 8
         have hfz66_9 := blk_frozen BK411.out 9
         have hnb67 := NB377_392.out
         have hnc67 := NB392_377.out
         have hcz68_0 : w44.cell? ⟨gb377, 0, none⟩ = some (.int .i64 t363) := (blk_cell BK377.out 0).trans rfl
         have hcz68_1 : w44.cell? ⟨gb377, 1, none⟩ = some (.int .i64 t364) := (blk_cell BK377.out 1).trans rfl
         have hcz68_2 : w44.cell? ⟨gb377, 2, none⟩ = some (.int .i64 t365) := (blk_cell BK377.out 2).trans rfl
         have hcz68_3 : w44.cell? ⟨gb377, 3, none⟩ = some (.slice Ao10 t366.length co10) := (blk_cell BK377.out 3).trans rfl
         have hcz68_4 : w44.cell? ⟨gb377, 4, none⟩ = some (.int .i64 t369) := (blk_cell BK377.out 4).trans rfl
         have hcz68_5 : w44.cell? ⟨gb377, 5, none⟩ = some (.string t370) := (blk_cell BK377.out 5).trans rfl
         have hcz68_6 : w44.cell? ⟨gb377, 6, none⟩ = some (.string t371) := (blk_cell BK377.out 6).trans rfl
         have hcz68_7 : w44.cell? ⟨gb377, 7, none⟩ = some (.int .i64 t372) := (blk_cell BK377.out 7).trans rfl
         have hcz68_8 : w44.cell? ⟨gb377, 8, none⟩ = some (.int .i64 t373) := (blk_cell BK377.out 8).trans rfl
         have hcz68_9 : w44.cell? ⟨gb377, 9, none⟩ = some (.int .i64 t374) := (blk_cell BK377.out 9).trans rfl
         have hfz68_0 := blk_frozen BK377.out 0
         have hfz68_1 := blk_frozen BK377.out 1
         have hfz68_2 := blk_frozen BK377.out 2
         have hfz68_3 := blk_frozen BK377.out 3
         have hfz68_4 := blk_frozen BK377.out 4
         have hfz68_5 := blk_frozen BK377.out 5
         have hfz68_6 := blk_frozen BK377.out 6
         have hfz68_7 := blk_frozen BK377.out 7
         have hfz68_8 := blk_frozen BK377.out 8
         have hfz68_9 := blk_frozen BK377.out 9
         go_wp2_with (first | ((with_reducible refine gate_callee (f := 6) rfl ?_); refine goesL_ (some 67) rfl rfl Try.func6 (by kernel_rfl) rfl #[.agg #[.int .i64 t397, .int .i64 t398, .int .i64 t399, .slice Ao48 t400.length co48, .int .i64 t403, .string t404, .string t405, .int .i64 t406, .int .i64 t407, .int .i64 t408], .agg #[.int .i64 t363, .int .i64 t364, .int .i64 t365, .slice Ao10 t366.length co10, .int .i64 t369, .string t370, .string t371, .int .i64 t372, .int .i64 t373, .int .i64 t374]] rfl z15_15 ?_; (with_reducible refine (laws_eqAct.calls kj5 t397 t398 t399 _ _ t400 t403 t404 t405 t406 t407 t408 t363 t364 t365 _ _ t366 t369 t370 t371 t372 t373 t374 false _ ?side1 ?side2 ?side3 ?side4 A49.out).mono ?_); (case side1 => refine (Kd.R_reads' (e := 3) (base := w.heap.size) (ok := fun k_ => ((True ∧ some k_ ≠ (.slice Ao10 t366.length co10 : Value).ownBlock) ∧ some k_ ≠ (.slice Ao15 t381.length co15 : Value).ownBlock)) (n := t400.length) (c := co48) ?_).2.2; exact z15_3); (case side2 => exact (Kd.R_reads' HO402.out).2.1); (case side3 => refine (Kd.R_reads' (e := 3) (base := w.heap.size) (ok := fun k_ => (some k_ ≠ (.slice Ao15 t381.length co15 : Value).ownBlock ∧ some k_ ≠ (.slice Ao48 t400.length co48 : Value).ownBlock)) (n := t366.length) (c := co10) ?_).2.2; exact z15_2); (case side4 => exact (Kd.R_reads' HO_378003.out).2.1); rintro e w69 ⟨rfl, hb⟩; refine ⟨_, rfl, ?_⟩; have n0_ := Aside0.mk (Kd.R_below z15_2 hb); have n1_ := Aside0.mk (Kd.R_below z15_9 hb); have n2_ := Aside0.mk (Kd.R_below z15_3 hb); have n3_ := Aside0.mk (blk_below (g := gb377) (o := .cells #[.int .i64 t363, .int .i64 t364, .int .i64 t365, .slice Ao10 t366.length co10, .int .i64 t369, .string t370, .string t371, .int .i64 t372, .int .i64 t373, .int .i64 t374] 26 (0, 0)) z15_7 hb); have n4_ := Aside0.mk (blk_below (g := gb392) (o := .cells #[.int .i64 t378, .int .i64 t379, .int .i64 t380, .slice Ao15 t381.length co15, .int .i64 t384, .string t385, .string t386, .int .i64 t387, .int .i64 t388, .int .i64 t389] 26 (0, 0)) z15_6 hb); have n5_ := Aside0.mk (blk_below (g := gb411) (o := .cells #[.int .i64 t397, .int .i64 t398, .int .i64 t399, .slice Ao48 t400.length co48, .int .i64 t403, .string t404, .string t405, .int .i64 t406, .int .i64 t407, .int .i64 t408] 26 (0, 0)) z15_0 hb); have n6_ := Aside0.mk (below_step z15_12 hb); clear HO_378003; clear HO_393003; clear HO402; clear BK377; clear BK392; clear BK411; clear HB; have HO_378003 := n0_; have HO_393003 := n1_; have HO402 := n2_; have BK377 := n3_; have BK392 := n4_; have BK411 := n5_; have HB := n6_; clear n0_ n1_ n2_ n3_ n4_ n5_ n6_))
         go_meet
         case rel => exact ⟨_, (true), z15_24, H', ⟨by have := HJ5.out; first | omega | exact Nat.le_refl _⟩, ⟨z15_17⟩, ⟨z15_16⟩, ⟨z15_23⟩, ⟨z15_11⟩, ⟨z15_13⟩, ⟨z15_20⟩, ⟨z15_12⟩⟩
       case rest =>
        clear HC37
        try clear c1
        try clear c2
        try clear p2
        try clear c3
        try clear c3b0
        try clear c3b1
        try clear c4
        try clear c5
        try clear c6
        try clear c7
        try clear c8
        try clear c13
        try clear c17
        try clear c18
        try clear c18b0
        try clear c18b1
        try clear c19
        try clear c23
        try clear c27
        try clear c31
        try clear c34
        try clear c34b0
        try clear c35
        try clear c35b0
        try clear c35b1
        try clear c38
        try clear c45
        try clear c46
        try clear c50
        try clear c51
        try clear c51b0
        try clear c51b1
        try clear c52
        try clear c53
        try clear c55
        try clear c58
        try clear c59
        try clear c61
        try clear c64
        try clear c65
        try clear c67
        try clear hcz14_0
        try clear hcz14_1
        try clear hcz14_2
        try clear hcz14_3
        try clear hcz14_4
        try clear hcz14_5
        try clear hcz14_6
        try clear hcz14_7
        try clear hcz14_8
        try clear hcz14_9
        try clear hcz20_0
        try clear hcz20_1
        try clear hcz20_2
        try clear hcz20_3
        try clear hcz20_4
        try clear hcz20_5
        try clear hcz20_6
        try clear hcz20_7
        try clear hcz20_8
        try clear hcz20_9
        try clear hcz21_0
        try clear hcz21_1
        try clear hcz21_2
        try clear hcz21_3
        try clear hcz21_4
        try clear hcz21_5
        try clear hcz21_6
        try clear hcz21_7
        try clear hcz21_8
        try clear hcz21_9
        try clear hcz24_0
        try clear hcz24_1
        try clear hcz24_2
        try clear hcz24_3
        try clear hcz24_4
        try clear hcz24_5
        try clear hcz24_6
        try clear hcz24_7
        try clear hcz24_8
        try clear hcz24_9
        try clear hcz25_0
        try clear hcz25_1
        try clear hcz25_2
        try clear hcz25_3
        try clear hcz25_4
        try clear hcz25_5
        try clear hcz25_6
        try clear hcz25_7
        try clear hcz25_8
        try clear hcz25_9
        try clear hcz28_0
        try clear hcz28_1
        try clear hcz28_2
        try clear hcz28_3
        try clear hcz28_4
        try clear hcz28_5
        try clear hcz28_6
        try clear hcz28_7
        try clear hcz28_8
        try clear hcz28_9
        try clear hcz29_0
        try clear hcz29_1
        try clear hcz29_2
        try clear hcz29_3
        try clear hcz29_4
        try clear hcz29_5
        try clear hcz29_6
        try clear hcz29_7
        try clear hcz29_8
        try clear hcz29_9
        try clear hcz39_0
        try clear hcz39_1
        try clear hcz39_2
        try clear hcz39_3
        try clear hcz39_4
        try clear hcz39_5
        try clear hcz39_6
        try clear hcz39_7
        try clear hcz39_8
        try clear hcz39_9
        try clear hcz41_0
        try clear hcz41_1
        try clear hcz41_2
        try clear hcz41_3
        try clear hcz41_4
        try clear hcz41_5
        try clear hcz41_6
        try clear hcz41_7
        try clear hcz41_8
        try clear hcz41_9
        try clear hcz47_0
        try clear hcz47_1
        try clear hcz47_2
        try clear hcz47_3
        try clear hcz47_4
        try clear hcz47_5
        try clear hcz47_6
        try clear hcz47_7
        try clear hcz47_8
        try clear hcz47_9
        try clear hcz54_0
        try clear hcz54_1
        try clear hcz54_2
        try clear hcz54_3
        try clear hcz54_4
        try clear hcz54_5
        try clear hcz54_6
        try clear hcz54_7
        try clear hcz54_8
        try clear hcz54_9
        try clear hcz56_0
        try clear hcz56_1
        try clear hcz56_2
        try clear hcz56_3
        try clear hcz56_4
        try clear hcz56_5
        try clear hcz56_6
        try clear hcz56_7
        try clear hcz56_8
        try clear hcz56_9
        try clear hcz60_0
        try clear hcz60_1
        try clear hcz60_2
        try clear hcz60_3
        try clear hcz60_4
        try clear hcz60_5
        try clear hcz60_6
        try clear hcz60_7
        try clear hcz60_8
        try clear hcz60_9
        try clear hcz62_0
        try clear hcz62_1
        try clear hcz62_2
        try clear hcz62_3
        try clear hcz62_4
        try clear hcz62_5
        try clear hcz62_6
        try clear hcz62_7
        try clear hcz62_8
        try clear hcz62_9
        try clear hcz66_0
        try clear hcz66_1
        try clear hcz66_2
        try clear hcz66_3
        try clear hcz66_4
        try clear hcz66_5
        try clear hcz66_6
        try clear hcz66_7
        try clear hcz66_8
        try clear hcz66_9
        try clear hcz68_0
        try clear hcz68_1
        try clear hcz68_2
        try clear hcz68_3
        try clear hcz68_4
        try clear hcz68_5
        try clear hcz68_6
        try clear hcz68_7
        try clear hcz68_8
        try clear hcz68_9
        try clear hcz9_0
        try clear hcz9_1
        try clear hcz9_2
        try clear hcz9_3
        try clear hcz9_4
        try clear hcz9_5
        try clear hcz9_6
        try clear hcz9_7
        try clear hcz9_8
        try clear hcz9_9
        try clear hfz14_0
        try clear hfz14_1
        try clear hfz14_2
        try clear hfz14_3
        try clear hfz14_4
        try clear hfz14_5
        try clear hfz14_6
        try clear hfz14_7
        try clear hfz14_8
        try clear hfz14_9
        try clear hfz20_0
        try clear hfz20_1
        try clear hfz20_2
        try clear hfz20_3
        try clear hfz20_4
        try clear hfz20_5
        try clear hfz20_6
        try clear hfz20_7
        try clear hfz20_8
        try clear hfz20_9
        try clear hfz21_0
        try clear hfz21_1
        try clear hfz21_2
        try clear hfz21_3
        try clear hfz21_4
        try clear hfz21_5
        try clear hfz21_6
        try clear hfz21_7
        try clear hfz21_8
        try clear hfz21_9
        try clear hfz24_0
        try clear hfz24_1
        try clear hfz24_2
        try clear hfz24_3
        try clear hfz24_4
        try clear hfz24_5
        try clear hfz24_6
        try clear hfz24_7
        try clear hfz24_8
        try clear hfz24_9
        try clear hfz25_0
        try clear hfz25_1
        try clear hfz25_2
        try clear hfz25_3
        try clear hfz25_4
        try clear hfz25_5
        try clear hfz25_6
        try clear hfz25_7
        try clear hfz25_8
        try clear hfz25_9
        try clear hfz28_0
        try clear hfz28_1
        try clear hfz28_2
        try clear hfz28_3
        try clear hfz28_4
        try clear hfz28_5
        try clear hfz28_6
        try clear hfz28_7
        try clear hfz28_8
        try clear hfz28_9
        try clear hfz29_0
        try clear hfz29_1
        try clear hfz29_2
        try clear hfz29_3
        try clear hfz29_4
        try clear hfz29_5
        try clear hfz29_6
        try clear hfz29_7
        try clear hfz29_8
        try clear hfz29_9
        try clear hfz39_0
        try clear hfz39_1
        try clear hfz39_2
        try clear hfz39_3
        try clear hfz39_4
        try clear hfz39_5
        try clear hfz39_6
        try clear hfz39_7
        try clear hfz39_8
        try clear hfz39_9
        try clear hfz41_0
        try clear hfz41_1
        try clear hfz41_2
        try clear hfz41_3
        try clear hfz41_4
        try clear hfz41_5
        try clear hfz41_6
        try clear hfz41_7
        try clear hfz41_8
        try clear hfz41_9
        try clear hfz47_0
        try clear hfz47_1
        try clear hfz47_2
        try clear hfz47_3
        try clear hfz47_4
        try clear hfz47_5
        try clear hfz47_6
        try clear hfz47_7
        try clear hfz47_8
        try clear hfz47_9
        try clear hfz54_0
        try clear hfz54_1
        try clear hfz54_2
        try clear hfz54_3
        try clear hfz54_4
        try clear hfz54_5
        try clear hfz54_6
        try clear hfz54_7
        try clear hfz54_8
        try clear hfz54_9
        try clear hfz56_0
        try clear hfz56_1
        try clear hfz56_2
        try clear hfz56_3
        try clear hfz56_4
        try clear hfz56_5
        try clear hfz56_6
        try clear hfz56_7
        try clear hfz56_8
        try clear hfz56_9
        try clear hfz60_0
        try clear hfz60_1
        try clear hfz60_2
        try clear hfz60_3
        try clear hfz60_4
        try clear hfz60_5
        try clear hfz60_6
        try clear hfz60_7
        try clear hfz60_8
        try clear hfz60_9
        try clear hfz62_0
        try clear hfz62_1
        try clear hfz62_2
        try clear hfz62_3
        try clear hfz62_4
        try clear hfz62_5
        try clear hfz62_6
        try clear hfz62_7
        try clear hfz62_8
        try clear hfz62_9
        try clear hfz66_0
        try clear hfz66_1
        try clear hfz66_2
        try clear hfz66_3
        try clear hfz66_4
        try clear hfz66_5
        try clear hfz66_6
        try clear hfz66_7
        try clear hfz66_8
        try clear hfz66_9
        try clear hfz68_0
        try clear hfz68_1
        try clear hfz68_2
        try clear hfz68_3
        try clear hfz68_4
        try clear hfz68_5
        try clear hfz68_6
        try clear hfz68_7
        try clear hfz68_8
        try clear hfz68_9
        try clear hfz9_0
        try clear hfz9_1
        try clear hfz9_2
        try clear hfz9_3
        try clear hfz9_4
        try clear hfz9_5
        try clear hfz9_6
        try clear hfz9_7
        try clear hfz9_8
        try clear hfz9_9
        try clear p2
        obtain ⟨kq, x78_36, rfl, HA, HJ36, HO_378003, HO_393003, HO_412003, BK377, BK392, BK411, HB⟩ := hcut
        have hl393003_36 := (Kd.R_reads' HO_393003.out).1
        rw [hl393003_36] at HO_393003
        (try simp only [hl393003_36])
        (try simp only [hl393003_36] at BK377)
        (try simp only [hl393003_36] at BK392)
        (try simp only [hl393003_36] at BK411)
        (try simp only [hl393003_36] at HO_378003)
        (try simp only [hl393003_36] at HO_412003)
        cases kq with
        | zero => exact absurd HA.out (by simp [laws_FnExactReadAct.j1])
        | succ kj36 =>
         have H := HA.out
         clear HA
         simp only [laws_FnExactReadAct.j1] at H
         by_cases c70 : x78_36 = true
         ·
          subst c70
          rw [if_pos rfl] at H
          exact absurd H (by simp)
         ·
          replace c70 := Bool.eq_false_iff.mpr c70
          subst c70
          rw [if_neg (show ¬ (false = true) by decide)] at H
          replace H := Option.bind_eq_some_iff.mp H
          obtain ⟨t413, A710, H⟩ := H
          (try dsimp only at H)
          have A71 := Aside0.mk A710
          clear A710
          by_cases c72 : t413 < 0
          ·
           rw [if_pos c72] at H
           have c72b0 : decide (t413 < 0) = true := decide_eq_true c72
           clear c72
           exact absurd H (by simp)
          ·
           rw [if_neg c72] at H
           have c72b0 : decide (t413 < 0) = false := decide_eq_false c72
           clear c72
           by_cases c73 : t413 = t394
           ·
            rw [if_pos c73] at H
            have c73b0 : (t413 == t394) = true := beq_iff_eq.mpr c73
            have c73b1 : (t413 != t394) = false := bne_eq_false_iff_eq.mpr c73
            clear c73
            clear H
            have hnb74 := NB392_377.out
            have hnc74 := NB377_392.out
            have hnb75 := NB392_411.out
            have hnc75 := NB411_392.out
            have hcz76_0 : wc.cell? ⟨gb392, 0, none⟩ = some (.int .i64 t378) := (blk_cell BK392.out 0).trans rfl
            have hcz76_1 : wc.cell? ⟨gb392, 1, none⟩ = some (.int .i64 t379) := (blk_cell BK392.out 1).trans rfl
            have hcz76_2 : wc.cell? ⟨gb392, 2, none⟩ = some (.int .i64 t380) := (blk_cell BK392.out 2).trans rfl
            have hcz76_3 : wc.cell? ⟨gb392, 3, none⟩ = some (.slice Ao15 t395.length co15) := (blk_cell BK392.out 3).trans rfl
            have hcz76_4 : wc.cell? ⟨gb392, 4, none⟩ = some (.int .i64 t384) := (blk_cell BK392.out 4).trans rfl
            have hcz76_5 : wc.cell? ⟨gb392, 5, none⟩ = some (.string t385) := (blk_cell BK392.out 5).trans rfl
            have hcz76_6 : wc.cell? ⟨gb392, 6, none⟩ = some (.string t386) := (blk_cell BK392.out 6).trans rfl
            have hcz76_7 : wc.cell? ⟨gb392, 7, none⟩ = some (.int .i64 t387) := (blk_cell BK392.out 7).trans rfl
            have hcz76_8 : wc.cell? ⟨gb392, 8, none⟩ = some (.int .i64 t388) := (blk_cell BK392.out 8).trans rfl
            have hcz76_9 : wc.cell? ⟨gb392, 9, none⟩ = some (.int .i64 t389) := (blk_cell BK392.out 9).trans rfl
            have hfz76_0 := blk_frozen BK392.out 0
            have hfz76_1 := blk_frozen BK392.out 1
            have hfz76_2 := blk_frozen BK392.out 2
            have hfz76_3 := blk_frozen BK392.out 3
            have hfz76_4 := blk_frozen BK392.out 4
            have hfz76_5 := blk_frozen BK392.out 5
            have hfz76_6 := blk_frozen BK392.out 6
            have hfz76_7 := blk_frozen BK392.out 7
            have hfz76_8 := blk_frozen BK392.out 8
            have hfz76_9 := blk_frozen BK392.out 9
            go_wp2_with (first | ((with_reducible refine gate_callee (f := 8) rfl ?_); refine goesL_ (some 81) rfl rfl Try.func8 (by kernel_rfl) rfl #[.agg #[.int .i64 t378, .int .i64 t379, .int .i64 t380, .slice Ao15 t395.length co15, .int .i64 t384, .string t385, .string t386, .int .i64 t387, .int .i64 t388, .int .i64 t389], .int .i64 1] rfl z15_15 ?_; (with_reducible refine (laws_heldAct.calls kj36 t378 t379 t380 _ _ t395 t384 t385 t386 t387 t388 t389 1 t413 _ ?side1 ?side2 A71.out).mono ?_); (case side1 => repeat (first | exact (Kd.R_reads' HO_393003.out).2.2 | (with_reducible refine Kd.C_alloc ?_ _) | (with_reducible refine Kd.C_drewN ?_ _) | (with_reducible refine Kd.C_drew ?_))); (case side2 => exact (Kd.R_reads' HO_393003.out).2.1); rintro e w77 ⟨rfl, hb⟩; refine ⟨_, rfl, ?_⟩; have n0_ := Aside0.mk (Kd.R_below z15_17 hb); have n1_ := Aside0.mk (Kd.R_below z15_16 hb); have n2_ := Aside0.mk (Kd.R_below (by (with_reducible repeat (first | apply Kd.R_alloc | apply Kd.R_drewN | apply Kd.R_drew)); exact HO_412003.out) hb); have n3_ := Aside0.mk (blk_below (g := gb377) (o := .cells #[.int .i64 t363, .int .i64 t364, .int .i64 t365, .slice Ao10 t366.length co10, .int .i64 t369, .string t370, .string t371, .int .i64 t372, .int .i64 t373, .int .i64 t374] 26 (0, 0)) z15_11 hb); have n4_ := Aside0.mk (blk_below (g := gb392) (o := .cells #[.int .i64 t378, .int .i64 t379, .int .i64 t380, .slice Ao15 t395.length co15, .int .i64 t384, .string t385, .string t386, .int .i64 t387, .int .i64 t388, .int .i64 t389] 26 (0, 0)) z15_13 hb); have n5_ := Aside0.mk (blk_below (g := gb411) (o := .cells #[.int .i64 t397, .int .i64 t398, .int .i64 t399, .slice Ao48 t400.length co48, .int .i64 t403, .string t404, .string t405, .int .i64 t406, .int .i64 t407, .int .i64 t408] 26 (0, 0)) z15_20 hb); have n6_ := Aside0.mk (below_step z15_12 hb); clear HO_378003; clear HO_393003; clear HO_412003; clear BK377; clear BK392; clear BK411; clear HB; have HO_378003 := n0_; have HO_393003 := n1_; have HO_412003 := n2_; have BK377 := n3_; have BK392 := n4_; have BK411 := n5_; have HB := n6_; clear n0_ n1_ n2_ n3_ n4_ n5_ n6_))
            go_ret
            exact ⟨by first | rfl | (simp [errW_none, errW_some] <;> rfl) | (simp [*, errW_none, errW_some] <;> rfl), z15_12⟩
           ·
            rw [if_neg c73] at H
            have c73b0 : (t413 == t394) = false := beq_eq_false_iff_ne.mpr c73
            have c73b1 : (t413 != t394) = true := bne_iff_ne.mpr c73
            exact absurd H (by simp)
      ·
       rw [if_neg c35] at H
       have c35b0 : (t396 == t394) = false := beq_eq_false_iff_ne.mpr c35
       have c35b1 : (t396 != t394) = true := bne_iff_ne.mpr c35
       exact absurd H (by simp)
end Go.Proofs.Ytmbjnblbbfbfjaa.QRdAct
