/- What the functions behind FnExactSameState compute, and that the program's calls come to just that. Written by a program of this session on the base of the kit's print. No condition. -/
import Derived.Test.YtbanogkoaplcdaaQFnExactSameStatex0
import Derived.Test.YtbanogkoaplcdaaQFnExactSameStatex4
import Derived.Test.YtbanogkoaplcdaaQFnExactSameStatex5
import Derived.Test.YtbanogkoaplcdaaQFnExactSameStatex8
import Derived.Test.YtbanogkoaplcdaaQFnExactSameStatex9
import Derived.Test.YtbanogkoaplcdaaQFnExactSameStatex10
namespace Go.Proofs.Ytbanogkoaplcdaa.QFnExactSameState
open Go.RowKit Go.Proofs.YtbanogkoaplcdaaW.PrintWords Go.Proofs.YtbanogkoaplcdaaW.PrintLast Go.Proofs.YtbanogkoaplcdaaW.PrintMore
attribute [local go_sem] max2_int min2_int max_two min_two max_three min_three max_four min_four   -- for this text's walks alone
set_option linter.unusedVariables false
set_option linter.unusedSimpArgs false

theorem z11_52 {P : Prop} (h : P := by first | rfl | (simp [errW_none, errW_some] <;> rfl) | (simp [*, errW_none, errW_some] <;> rfl)) : P := h
theorem z11_51 {P : Prop} (h : P := by (with_reducible repeat (first | apply Kd.R_alloc | apply Kd.R_drewN | apply Kd.R_drew)); exact HO296.out) : P := h
theorem z11_50 {P : Prop} (h : P := by (with_reducible repeat (first | apply Kd.R_alloc | apply Kd.R_drewN | apply Kd.R_drew)); exact HO299.out) : P := h
theorem z11_49 {P : Prop} (h : P := by (with_reducible repeat (first | apply Kd.R_alloc | apply Kd.R_drewN | apply Kd.R_drew)); exact HO302.out) : P := h
theorem z11_48 {P : Prop} (h : P := by (with_reducible repeat (first | apply Kd.R_alloc | apply Kd.R_drewN | apply Kd.R_drew)); exact HO305.out) : P := h
theorem z11_47 {P : Prop} (h : P := by kernel_rfl) : P := h
theorem z11_46 {P : Prop} (h : P := by (with_reducible repeat (first | refine blk_drewN ?_ _ | refine blk_drew ?_ | refine blk_alloc ?_ _)); exact BK292.out) : P := h
theorem z11_45 {P : Prop} (h : P := by (with_reducible repeat (first | apply Kd.R_alloc | apply Kd.R_drewN | apply Kd.R_drew)); exact (Kd.R_mono (Kd.R_far (p := ⟨gb279, 3, none⟩) (Kd.R_far (p := ⟨gb279, 2, none⟩) (Kd.R_far (p := ⟨gb279, 1, none⟩) (Kd.R_far (p := ⟨gb279, 0, none⟩) (Kd.R_types HO244.out BK279.out (by decide)) (fun _ hk => hk.2) (.slice Ao54 t267.length co54)) (fun _ hk => hk.2) (.slice Ao58 t270.length co58)) (fun _ hk => hk.2) (.slice Ao59 t273.length co59)) (fun _ hk => hk.2) (.slice Ao60 t276.length co60)) (fun _ h_ => h_.1))) : P := h
theorem z11_44 {P : Prop} (h : P := by (with_reducible repeat (first | apply Kd.R_alloc | apply Kd.R_drewN | apply Kd.R_drew)); exact (Kd.R_mono (Kd.R_far (p := ⟨gb279, 3, none⟩) (Kd.R_far (p := ⟨gb279, 2, none⟩) (Kd.R_far (p := ⟨gb279, 1, none⟩) (Kd.R_far (p := ⟨gb279, 0, none⟩) (Kd.R_types HO247.out BK279.out (by decide)) (fun _ hk => hk.2) (.slice Ao54 t267.length co54)) (fun _ hk => hk.2) (.slice Ao58 t270.length co58)) (fun _ hk => hk.2) (.slice Ao59 t273.length co59)) (fun _ hk => hk.2) (.slice Ao60 t276.length co60)) (fun _ h_ => h_.1))) : P := h
theorem z11_43 {P : Prop} (h : P := by (with_reducible repeat (first | apply Kd.R_alloc | apply Kd.R_drewN | apply Kd.R_drew)); exact (Kd.R_mono (Kd.R_far (p := ⟨gb279, 3, none⟩) (Kd.R_far (p := ⟨gb279, 2, none⟩) (Kd.R_far (p := ⟨gb279, 1, none⟩) (Kd.R_far (p := ⟨gb279, 0, none⟩) (Kd.R_types HO250.out BK279.out (by decide)) (fun _ hk => hk.2) (.slice Ao54 t267.length co54)) (fun _ hk => hk.2) (.slice Ao58 t270.length co58)) (fun _ hk => hk.2) (.slice Ao59 t273.length co59)) (fun _ hk => hk.2) (.slice Ao60 t276.length co60)) (fun _ h_ => h_.1))) : P := h
theorem z11_42 {P : Prop} (h : P := by (with_reducible repeat (first | apply Kd.R_alloc | apply Kd.R_drewN | apply Kd.R_drew)); exact (Kd.R_mono (Kd.R_far (p := ⟨gb279, 3, none⟩) (Kd.R_far (p := ⟨gb279, 2, none⟩) (Kd.R_far (p := ⟨gb279, 1, none⟩) (Kd.R_far (p := ⟨gb279, 0, none⟩) (Kd.R_types HO253.out BK279.out (by decide)) (fun _ hk => hk.2) (.slice Ao54 t267.length co54)) (fun _ hk => hk.2) (.slice Ao58 t270.length co58)) (fun _ hk => hk.2) (.slice Ao59 t273.length co59)) (fun _ hk => hk.2) (.slice Ao60 t276.length co60)) (fun _ h_ => h_.1))) : P := h
theorem z11_41 {P : Prop} (h : P := by (with_reducible repeat (first | apply Kd.R_alloc | apply Kd.R_drewN | apply Kd.R_drew)); exact (Kd.R_mono (Kd.R_far (p := ⟨gb279, 3, none⟩) (Kd.R_far (p := ⟨gb279, 2, none⟩) (Kd.R_far (p := ⟨gb279, 1, none⟩) (Kd.R_far (p := ⟨gb279, 0, none⟩) (Kd.R_types HO256.out BK279.out (by decide)) (fun _ hk => hk.2) (.slice Ao54 t267.length co54)) (fun _ hk => hk.2) (.slice Ao58 t270.length co58)) (fun _ hk => hk.2) (.slice Ao59 t273.length co59)) (fun _ hk => hk.2) (.slice Ao60 t276.length co60)) (fun _ h_ => h_.1))) : P := h
theorem z11_40 {P : Prop} (h : P := by (with_reducible repeat (first | apply Kd.R_alloc | apply Kd.R_drewN | apply Kd.R_drew)); exact (Kd.R_mono (Kd.R_far (p := ⟨gb279, 3, none⟩) (Kd.R_far (p := ⟨gb279, 2, none⟩) (Kd.R_far (p := ⟨gb279, 1, none⟩) (Kd.R_far (p := ⟨gb279, 0, none⟩) (Kd.R_types HO259.out BK279.out (by decide)) (fun _ hk => hk.2) (.slice Ao54 t267.length co54)) (fun _ hk => hk.2) (.slice Ao58 t270.length co58)) (fun _ hk => hk.2) (.slice Ao59 t273.length co59)) (fun _ hk => hk.2) (.slice Ao60 t276.length co60)) (fun _ h_ => h_.1))) : P := h
theorem z11_39 {P : Prop} (h : P := by (with_reducible repeat (first | apply Kd.R_alloc | apply Kd.R_drewN | apply Kd.R_drew)); exact (Kd.R_mono (Kd.R_far (p := ⟨gb279, 3, none⟩) (Kd.R_far (p := ⟨gb279, 2, none⟩) (Kd.R_far (p := ⟨gb279, 1, none⟩) (Kd.R_far (p := ⟨gb279, 0, none⟩) (Kd.R_types HO262.out BK279.out (by decide)) (fun _ hk => hk.2) (.slice Ao54 t267.length co54)) (fun _ hk => hk.2) (.slice Ao58 t270.length co58)) (fun _ hk => hk.2) (.slice Ao59 t273.length co59)) (fun _ hk => hk.2) (.slice Ao60 t276.length co60)) (fun _ h_ => h_.1))) : P := h
theorem z11_38 {P : Prop} (h : P := by (with_reducible repeat (first | apply Kd.R_alloc | apply Kd.R_drewN | apply Kd.R_drew)); exact (Kd.R_mono (Kd.R_far (p := ⟨gb279, 3, none⟩) (Kd.R_far (p := ⟨gb279, 2, none⟩) (Kd.R_far (p := ⟨gb279, 1, none⟩) (Kd.R_far (p := ⟨gb279, 0, none⟩) (Kd.R_types HO265.out BK279.out (by decide)) (fun _ hk => hk.2) (.slice Ao54 t267.length co54)) (fun _ hk => hk.2) (.slice Ao58 t270.length co58)) (fun _ hk => hk.2) (.slice Ao59 t273.length co59)) (fun _ hk => hk.2) (.slice Ao60 t276.length co60)) (fun _ h_ => h_.1))) : P := h
theorem z11_37 {P : Prop} (h : P := by (with_reducible repeat (first | apply Kd.R_alloc | apply Kd.R_drewN | apply Kd.R_drew)); exact (Kd.R_mono (Kd.R_far (p := ⟨gb279, 3, none⟩) (Kd.R_far (p := ⟨gb279, 2, none⟩) (Kd.R_far (p := ⟨gb279, 1, none⟩) (Kd.R_far (p := ⟨gb279, 0, none⟩) (Kd.R_types HO269.out BK279.out (by decide)) (fun _ hk => hk.2) (.slice Ao54 t267.length co54)) (fun _ hk => hk.2) (.slice Ao58 t270.length co58)) (fun _ hk => hk.2) (.slice Ao59 t273.length co59)) (fun _ hk => hk.2) (.slice Ao60 t276.length co60)) (fun _ h_ => h_.1))) : P := h
theorem z11_36 {P : Prop} (h : P := by (with_reducible repeat (first | apply Kd.R_alloc | apply Kd.R_drewN | apply Kd.R_drew)); exact (Kd.R_mono (Kd.R_far (p := ⟨gb279, 3, none⟩) (Kd.R_far (p := ⟨gb279, 2, none⟩) (Kd.R_far (p := ⟨gb279, 1, none⟩) (Kd.R_far (p := ⟨gb279, 0, none⟩) (Kd.R_types HO272.out BK279.out (by decide)) (fun _ hk => hk.2) (.slice Ao54 t267.length co54)) (fun _ hk => hk.2) (.slice Ao58 t270.length co58)) (fun _ hk => hk.2) (.slice Ao59 t273.length co59)) (fun _ hk => hk.2) (.slice Ao60 t276.length co60)) (fun _ h_ => h_.1))) : P := h
theorem z11_35 {P : Prop} (h : P := by (with_reducible repeat (first | apply Kd.R_alloc | apply Kd.R_drewN | apply Kd.R_drew)); exact (Kd.R_mono (Kd.R_far (p := ⟨gb279, 3, none⟩) (Kd.R_far (p := ⟨gb279, 2, none⟩) (Kd.R_far (p := ⟨gb279, 1, none⟩) (Kd.R_far (p := ⟨gb279, 0, none⟩) (Kd.R_types HO275.out BK279.out (by decide)) (fun _ hk => hk.2) (.slice Ao54 t267.length co54)) (fun _ hk => hk.2) (.slice Ao58 t270.length co58)) (fun _ hk => hk.2) (.slice Ao59 t273.length co59)) (fun _ hk => hk.2) (.slice Ao60 t276.length co60)) (fun _ h_ => h_.1))) : P := h
theorem z11_34 {P : Prop} (h : P := by (with_reducible repeat (first | apply Kd.R_alloc | apply Kd.R_drewN | apply Kd.R_drew)); exact (Kd.R_mono (Kd.R_far (p := ⟨gb279, 3, none⟩) (Kd.R_far (p := ⟨gb279, 2, none⟩) (Kd.R_far (p := ⟨gb279, 1, none⟩) (Kd.R_far (p := ⟨gb279, 0, none⟩) (Kd.R_types HO278.out BK279.out (by decide)) (fun _ hk => hk.2) (.slice Ao54 t267.length co54)) (fun _ hk => hk.2) (.slice Ao58 t270.length co58)) (fun _ hk => hk.2) (.slice Ao59 t273.length co59)) (fun _ hk => hk.2) (.slice Ao60 t276.length co60)) (fun _ h_ => h_.1))) : P := h
theorem z11_33 {P : Prop} (h : P := by (with_reducible repeat (first | apply Kd.R_alloc | apply Kd.R_drewN | apply Kd.R_drew)); exact (Kd.R_mono (Kd.R_far (p := ⟨gb292, 3, none⟩) (Kd.R_far (p := ⟨gb292, 2, none⟩) (Kd.R_far (p := ⟨gb292, 1, none⟩) (Kd.R_far (p := ⟨gb292, 0, none⟩) (Kd.R_types HO269.out BK292.out (by decide)) (fun _ hk => hk.2) (.slice Ao64 t280.length co64)) (fun _ hk => hk.2) (.slice Ao69 t283.length co69)) (fun _ hk => hk.2) (.slice Ao70 t286.length co70)) (fun _ hk => hk.2) (.slice Ao71 t289.length co71)) (fun _ h_ => h_.1))) : P := h
theorem z11_32 {P : Prop} (h : P := by (with_reducible repeat (first | apply Kd.R_alloc | apply Kd.R_drewN | apply Kd.R_drew)); exact (Kd.R_mono (Kd.R_far (p := ⟨gb292, 3, none⟩) (Kd.R_far (p := ⟨gb292, 2, none⟩) (Kd.R_far (p := ⟨gb292, 1, none⟩) (Kd.R_far (p := ⟨gb292, 0, none⟩) (Kd.R_types HO272.out BK292.out (by decide)) (fun _ hk => hk.2) (.slice Ao64 t280.length co64)) (fun _ hk => hk.2) (.slice Ao69 t283.length co69)) (fun _ hk => hk.2) (.slice Ao70 t286.length co70)) (fun _ hk => hk.2) (.slice Ao71 t289.length co71)) (fun _ h_ => h_.1))) : P := h
theorem z11_31 {P : Prop} (h : P := by (with_reducible repeat (first | apply Kd.R_alloc | apply Kd.R_drewN | apply Kd.R_drew)); exact (Kd.R_mono (Kd.R_far (p := ⟨gb292, 3, none⟩) (Kd.R_far (p := ⟨gb292, 2, none⟩) (Kd.R_far (p := ⟨gb292, 1, none⟩) (Kd.R_far (p := ⟨gb292, 0, none⟩) (Kd.R_types HO275.out BK292.out (by decide)) (fun _ hk => hk.2) (.slice Ao64 t280.length co64)) (fun _ hk => hk.2) (.slice Ao69 t283.length co69)) (fun _ hk => hk.2) (.slice Ao70 t286.length co70)) (fun _ hk => hk.2) (.slice Ao71 t289.length co71)) (fun _ h_ => h_.1))) : P := h
theorem z11_30 {P : Prop} (h : P := by (with_reducible repeat (first | apply Kd.R_alloc | apply Kd.R_drewN | apply Kd.R_drew)); exact (Kd.R_mono (Kd.R_far (p := ⟨gb292, 3, none⟩) (Kd.R_far (p := ⟨gb292, 2, none⟩) (Kd.R_far (p := ⟨gb292, 1, none⟩) (Kd.R_far (p := ⟨gb292, 0, none⟩) (Kd.R_types HO278.out BK292.out (by decide)) (fun _ hk => hk.2) (.slice Ao64 t280.length co64)) (fun _ hk => hk.2) (.slice Ao69 t283.length co69)) (fun _ hk => hk.2) (.slice Ao70 t286.length co70)) (fun _ hk => hk.2) (.slice Ao71 t289.length co71)) (fun _ h_ => h_.1))) : P := h
theorem z11_29 {P : Prop} (h : P := by (with_reducible repeat (first | apply Kd.R_alloc | apply Kd.R_drewN | apply Kd.R_drew)); exact (Kd.R_mono (Kd.R_far (p := ⟨gb292, 3, none⟩) (Kd.R_far (p := ⟨gb292, 2, none⟩) (Kd.R_far (p := ⟨gb292, 1, none⟩) (Kd.R_far (p := ⟨gb292, 0, none⟩) (Kd.R_types HO282.out BK292.out (by decide)) (fun _ hk => hk.2) (.slice Ao64 t280.length co64)) (fun _ hk => hk.2) (.slice Ao69 t283.length co69)) (fun _ hk => hk.2) (.slice Ao70 t286.length co70)) (fun _ hk => hk.2) (.slice Ao71 t289.length co71)) (fun _ h_ => h_.1))) : P := h
theorem z11_28 {P : Prop} (h : P := by (with_reducible repeat (first | apply Kd.R_alloc | apply Kd.R_drewN | apply Kd.R_drew)); exact (Kd.R_mono (Kd.R_far (p := ⟨gb292, 3, none⟩) (Kd.R_far (p := ⟨gb292, 2, none⟩) (Kd.R_far (p := ⟨gb292, 1, none⟩) (Kd.R_far (p := ⟨gb292, 0, none⟩) (Kd.R_types HO285.out BK292.out (by decide)) (fun _ hk => hk.2) (.slice Ao64 t280.length co64)) (fun _ hk => hk.2) (.slice Ao69 t283.length co69)) (fun _ hk => hk.2) (.slice Ao70 t286.length co70)) (fun _ hk => hk.2) (.slice Ao71 t289.length co71)) (fun _ h_ => h_.1))) : P := h
theorem z11_27 {P : Prop} (h : P := by (with_reducible repeat (first | apply Kd.R_alloc | apply Kd.R_drewN | apply Kd.R_drew)); exact (Kd.R_mono (Kd.R_far (p := ⟨gb292, 3, none⟩) (Kd.R_far (p := ⟨gb292, 2, none⟩) (Kd.R_far (p := ⟨gb292, 1, none⟩) (Kd.R_far (p := ⟨gb292, 0, none⟩) (Kd.R_types HO288.out BK292.out (by decide)) (fun _ hk => hk.2) (.slice Ao64 t280.length co64)) (fun _ hk => hk.2) (.slice Ao69 t283.length co69)) (fun _ hk => hk.2) (.slice Ao70 t286.length co70)) (fun _ hk => hk.2) (.slice Ao71 t289.length co71)) (fun _ h_ => h_.1))) : P := h
theorem z11_26 {P : Prop} (h : P := by (with_reducible repeat (first | apply Kd.R_alloc | apply Kd.R_drewN | apply Kd.R_drew)); exact (Kd.R_mono (Kd.R_far (p := ⟨gb292, 3, none⟩) (Kd.R_far (p := ⟨gb292, 2, none⟩) (Kd.R_far (p := ⟨gb292, 1, none⟩) (Kd.R_far (p := ⟨gb292, 0, none⟩) (Kd.R_types HO291.out BK292.out (by decide)) (fun _ hk => hk.2) (.slice Ao64 t280.length co64)) (fun _ hk => hk.2) (.slice Ao69 t283.length co69)) (fun _ hk => hk.2) (.slice Ao70 t286.length co70)) (fun _ hk => hk.2) (.slice Ao71 t289.length co71)) (fun _ h_ => h_.1))) : P := h
theorem z11_25 {P : Prop} (h : P := by (with_reducible repeat (first | apply Kd.R_alloc | apply Kd.R_drewN | apply Kd.R_drew)); exact HO282.out) : P := h
theorem z11_24 {P : Prop} (h : P := by (with_reducible repeat (first | apply Kd.R_alloc | apply Kd.R_drewN | apply Kd.R_drew)); exact HO285.out) : P := h
theorem z11_23 {P : Prop} (h : P := by (with_reducible repeat (first | apply Kd.R_alloc | apply Kd.R_drewN | apply Kd.R_drew)); exact HO288.out) : P := h
theorem z11_22 {P : Prop} (h : P := by (with_reducible repeat (first | apply Kd.R_alloc | apply Kd.R_drewN | apply Kd.R_drew)); exact HO291.out) : P := h
theorem z11_21 {P : Prop} (h : P := by (with_reducible repeat (first | refine blk_drewN ?_ _ | refine blk_drew ?_ | refine blk_alloc ?_ _)); exact BK279.out) : P := h
theorem z11_20 {P : Prop} (h : P := by (with_reducible repeat (first | apply Kd.R_alloc | apply Kd.R_drewN | apply Kd.R_drew)); exact HO269.out) : P := h
theorem z11_19 {P : Prop} (h : P := by (with_reducible repeat (first | apply Kd.R_alloc | apply Kd.R_drewN | apply Kd.R_drew)); exact HO272.out) : P := h
theorem z11_18 {P : Prop} (h : P := by (with_reducible repeat (first | apply Kd.R_alloc | apply Kd.R_drewN | apply Kd.R_drew)); exact HO275.out) : P := h
theorem z11_17 {P : Prop} (h : P := by (with_reducible repeat (first | apply Kd.R_alloc | apply Kd.R_drewN | apply Kd.R_drew)); exact HO278.out) : P := h
theorem z11_16 {P : Prop} (h : P := by simp only [Act.put, List.setIfInBounds_toArray, List.set_cons_zero, List.set_cons_succ, i64_w, i32_w]; rfl) : P := h
theorem z11_15 {P : Prop} (h : P := by (with_reducible repeat (first | apply Kd.R_alloc | apply Kd.R_drewN | apply Kd.R_drew)); exact HO256.out) : P := h
theorem z11_14 {P : Prop} (h : P := by (with_reducible repeat (first | apply Kd.R_alloc | apply Kd.R_drewN | apply Kd.R_drew)); exact HO259.out) : P := h
theorem z11_13 {P : Prop} (h : P := by (with_reducible repeat (first | apply Kd.R_alloc | apply Kd.R_drewN | apply Kd.R_drew)); exact HO262.out) : P := h
theorem z11_12 {P : Prop} (h : P := by (with_reducible repeat (first | apply Kd.R_alloc | apply Kd.R_drewN | apply Kd.R_drew)); exact HO265.out) : P := h
theorem z11_11 {P : Prop} (h : P := by repeat (first | (with_reducible first | exact HB.out | apply below_alloc | apply pw_below_drewN | apply below_drew1) | exact HB.out)) : P := h
theorem z11_10 {P : Prop} (h : P := by (with_reducible repeat (first | apply Kd.R_alloc | apply Kd.R_drewN | apply Kd.R_drew)); exact HO244.out) : P := h
theorem z11_9 {P : Prop} (h : P := by (with_reducible repeat (first | apply Kd.R_alloc | apply Kd.R_drewN | apply Kd.R_drew)); exact HO247.out) : P := h
theorem z11_8 {P : Prop} (h : P := by (with_reducible repeat (first | apply Kd.R_alloc | apply Kd.R_drewN | apply Kd.R_drew)); exact HO250.out) : P := h
theorem z11_7 {P : Prop} (h : P := by (with_reducible repeat (first | apply Kd.R_alloc | apply Kd.R_drewN | apply Kd.R_drew)); exact HO253.out) : P := h
theorem z11_6 {P : Prop} (h : P := by first | rfl | (simp only [List.map_toArray, List.map_cons, List.map_nil]; first | done | rfl)) : P := h
theorem z11_5 {P : Prop} (h : P := by repeat (first | (with_reducible first | exact HB.out | apply below_alloc | apply pw_below_drewN | apply below_drew1 | refine below_set ?_ GE238.out) | exact HB.out)) : P := h
theorem z11_4 {P : Prop} (h : P := by (with_reducible repeat (first | refine blk_drewN ?_ _ | refine blk_drew ?_ | refine blk_alloc ?_ _)); exact BK239.out) : P := h
theorem z11_3 {P : Prop} (h : P := by repeat (first | (with_reducible first | exact HB.out | apply below_alloc | apply pw_below_drewN | apply below_drew1 | refine below_set ?_ GE238.out | refine below_set ?_ GE239.out | refine below_set ?_ GE279.out) | exact HB.out)) : P := h
theorem z11_2 {P : Prop} (h : P := by (with_reducible repeat (first | refine blk_drewN ?_ _ | refine blk_drew ?_ | refine blk_alloc ?_ _)); exact BK238.out) : P := h
theorem z11_1 {P : Prop} (h : P := by repeat (first | (with_reducible first | exact HB.out | apply below_alloc | apply pw_below_drewN | apply below_drew1 | refine below_set ?_ GE238.out | refine below_set ?_ GE239.out | refine below_set ?_ GE279.out | refine below_set ?_ GE292.out) | exact HB.out)) : P := h
theorem z11_0 {P : Prop} (h : P := by repeat (first | (with_reducible first | exact HB.out | apply below_alloc | apply pw_below_drewN | apply below_drew1 | refine below_set ?_ GE238.out | refine below_set ?_ GE239.out) | exact HB.out)) : P := h

/-! ### laws_FnExactSameState: function 4 -/
def laws_FnExactSameState.f (k : Nat) (l0_0 : List Int) (l0_1 : List (S112)) (l0_2 : List (S115)) (l0_3 : List (S118)) (l1_0 : List Int) (l1_1 : List (S112)) (l1_2 : List (S115)) (l1_3 : List (S118)) : Option (Bool) := (laws_szState.f k l0_0 l0_1 l0_2 l0_3 1048576).bind fun t240 => (if t240 < 0 then (some true) else ((laws_szState.f k l1_0 l1_1 l1_2 l1_3 t240).bind fun t241 => (if t241 < 0 then (some true) else ((laws_toState.f k l0_0 l0_1 l0_2 l0_3).bind fun bt242 => ((laws_toState.f k l1_0 l1_1 l1_2 l1_3).bind fun bt254 => ((spec_SameState.f k bt242.1 bt242.2.1 bt242.2.2.1 bt242.2.2.2 bt254.1 bt254.2.1 bt254.2.2.1 bt254.2.2.2).bind fun t266 => ((laws_toState.f k l0_0 l0_1 l0_2 l0_3).bind fun bt267 => ((laws_toState.f k l1_0 l1_1 l1_2 l1_3).bind fun bt280 => ((impl_SameState.f k bt267.1 bt267.2.1 bt267.2.2.1 bt267.2.2.2 bt280.1 bt280.2.1 bt280.2.2.1 bt280.2.2.2).bind fun t293 => (if (t293 != t266) = true then (some false) else ((laws_toState.f k l0_0 l0_1 l0_2 l0_3).bind fun bt294 => ((laws_eqState.f k bt267.1 bt267.2.1 bt267.2.2.1 bt267.2.2.2 bt294.1 bt294.2.1 bt294.2.2.1 bt294.2.2.2).bind fun t306 => (if t306 = true then ((laws_toState.f k l1_0 l1_1 l1_2 l1_3).bind fun bt307 => ((laws_eqState.f k bt280.1 bt280.2.1 bt280.2.2.1 bt280.2.2.2 bt307.1 bt307.2.1 bt307.2.2.1 bt307.2.2.2).bind fun t319 => (if t319 = true then (some true) else (some false)))) else (some false))))))))))))))
theorem laws_FnExactSameState.mono : ∀ a0 a1 a2 a3 a4 a5 a6 a7 k, LeO (laws_FnExactSameState.f k a0 a1 a2 a3 a4 a5 a6 a7) (laws_FnExactSameState.f (k + 1) a0 a1 a2 a3 a4 a5 a6 a7) := by
 intro a0 a1 a2 a3 a4 a5 a6 a7 k
 unfold laws_FnExactSameState.f
 repeat' first
   | (with_reducible exact impl_SameState.mono _ _ _ _ _ _ _ _ _)
   | (with_reducible exact laws_eqState.mono _ _ _ _ _ _ _ _ _)
   | (with_reducible exact laws_szState.mono _ _ _ _ _ _)
   | (with_reducible exact laws_toState.mono _ _ _ _ _)
   | (with_reducible exact spec_SameState.mono _ _ _ _ _ _ _ _ _)
   | (with_reducible exact LeO.refl _)
   | (with_reducible exact LeO.none _)
   | (with_reducible refine LeO.ite ?_ ?_)
   | (with_reducible refine LeO.bind ?_ (fun _ => ?_))
   | exact impl_SameState.mono _ _ _ _ _ _ _ _ _
   | exact laws_eqState.mono _ _ _ _ _ _ _ _ _
   | exact laws_szState.mono _ _ _ _ _ _
   | exact laws_toState.mono _ _ _ _ _
   | exact spec_SameState.mono _ _ _ _ _ _ _ _ _
   | exact LeO.none _
   | refine LeO.ite ?_ ?_
   | refine LeO.bind ?_ (fun _ => ?_)
set_option maxHeartbeats 8000000 in
set_option maxRecDepth 100000 in
theorem laws_FnExactSameState.calls_true (k : Nat) (A0_0 : Option Addr) (c0_0 : Nat) (l0_0 : List Int) (A0_1 : Option Addr) (c0_1 : Nat) (l0_1 : List (S112)) (A0_2 : Option Addr) (c0_2 : Nat) (l0_2 : List (S115)) (A0_3 : Option Addr) (c0_3 : Nat) (l0_3 : List (S118)) (A1_0 : Option Addr) (c1_0 : Nat) (l1_0 : List Int) (A1_1 : Option Addr) (c1_1 : Nat) (l1_1 : List (S112)) (A1_2 : Option Addr) (c1_2 : Nat) (l1_2 : List (S115)) (A1_3 : Option Addr) (c1_3 : Nat) (l1_3 : List (S118)) (w : World) (hr0_0 : Kd.C (Kd.int .i64) w A0_0 l0_0.length l0_0) (hc0_0 : l0_0.length ≤ c0_0) (hr0_1 : Kd.C k112 w A0_1 l0_1.length l0_1) (hc0_1 : l0_1.length ≤ c0_1) (hr0_2 : Kd.C k115 w A0_2 l0_2.length l0_2) (hc0_2 : l0_2.length ≤ c0_2) (hr0_3 : Kd.C k118 w A0_3 l0_3.length l0_3) (hc0_3 : l0_3.length ≤ c0_3) (hr1_0 : Kd.C (Kd.int .i64) w A1_0 l1_0.length l1_0) (hc1_0 : l1_0.length ≤ c1_0) (hr1_1 : Kd.C k112 w A1_1 l1_1.length l1_1) (hc1_1 : l1_1.length ≤ c1_1) (hr1_2 : Kd.C k115 w A1_2 l1_2.length l1_2) (hc1_2 : l1_2.length ≤ c1_2) (hr1_3 : Kd.C k118 w A1_3 l1_3.length l1_3) (hc1_3 : l1_3.length ≤ c1_3) (h : laws_FnExactSameState.f k l0_0 l0_1 l0_2 l0_3 l1_0 l1_1 l1_2 l1_3 = some true) :
  Calls Try.prog 4 #[.agg #[.slice A0_0 l0_0.length c0_0, .slice A0_1 l0_1.length c0_1, .slice A0_2 l0_2.length c0_2, .slice A0_3 l0_3.length c0_3], .agg #[.slice A1_0 l1_0.length c1_0, .slice A1_1 l1_1.length c1_1, .slice A1_2 l1_2.length c1_2, .slice A1_3 l1_3.length c1_3]] w fun e w' => e = .returned (.bool true) ∧ Below w.heap.size w w' := by
 have hu27 := Try.underlying27
 have hu36 := Try.underlying36
 have HR0_0 := Aside0.mk hr0_0
 have HC0_0 := Aside0.mk hc0_0
 clear hr0_0 hc0_0
 have HR0_1 := Aside0.mk hr0_1
 have HC0_1 := Aside0.mk hc0_1
 clear hr0_1 hc0_1
 have HR0_2 := Aside0.mk hr0_2
 have HC0_2 := Aside0.mk hc0_2
 clear hr0_2 hc0_2
 have HR0_3 := Aside0.mk hr0_3
 have HC0_3 := Aside0.mk hc0_3
 clear hr0_3 hc0_3
 have HR1_0 := Aside0.mk hr1_0
 have HC1_0 := Aside0.mk hc1_0
 clear hr1_0 hc1_0
 have HR1_1 := Aside0.mk hr1_1
 have HC1_1 := Aside0.mk hc1_1
 clear hr1_1 hc1_1
 have HR1_2 := Aside0.mk hr1_2
 have HC1_2 := Aside0.mk hc1_2
 clear hr1_2 hc1_2
 have HR1_3 := Aside0.mk hr1_3
 have HC1_3 := Aside0.mk hc1_3
 clear hr1_3 hc1_3
 have HB := Aside0.mk (Below.refl w.heap.size w)
 have H : ((laws_szState.f k l0_0 l0_1 l0_2 l0_3 1048576).bind fun t240 => (if t240 < 0 then (some true) else ((laws_szState.f k l1_0 l1_1 l1_2 l1_3 t240).bind fun t241 => (if t241 < 0 then (some true) else ((laws_toState.f k l0_0 l0_1 l0_2 l0_3).bind fun bt242 => ((laws_toState.f k l1_0 l1_1 l1_2 l1_3).bind fun bt254 => ((spec_SameState.f k bt242.1 bt242.2.1 bt242.2.2.1 bt242.2.2.2 bt254.1 bt254.2.1 bt254.2.2.1 bt254.2.2.2).bind fun t266 => ((laws_toState.f k l0_0 l0_1 l0_2 l0_3).bind fun bt267 => ((laws_toState.f k l1_0 l1_1 l1_2 l1_3).bind fun bt280 => ((impl_SameState.f k bt267.1 bt267.2.1 bt267.2.2.1 bt267.2.2.2 bt280.1 bt280.2.1 bt280.2.2.1 bt280.2.2.2).bind fun t293 => (if (t293 != t266) = true then (some false) else ((laws_toState.f k l0_0 l0_1 l0_2 l0_3).bind fun bt294 => ((laws_eqState.f k bt267.1 bt267.2.1 bt267.2.2.1 bt267.2.2.2 bt294.1 bt294.2.1 bt294.2.2.1 bt294.2.2.2).bind fun t306 => (if t306 = true then ((laws_toState.f k l1_0 l1_1 l1_2 l1_3).bind fun bt307 => ((laws_eqState.f k bt280.1 bt280.2.1 bt280.2.2.1 bt280.2.2.2 bt307.1 bt307.2.1 bt307.2.2.1 bt307.2.2.2).bind fun t319 => (if t319 = true then (some true) else (some false)))) else (some false))))))))))))))) = some true := h
 clear h
 replace H := Option.bind_eq_some_iff.mp H
 obtain ⟨t240, A30, H⟩ := H
 (try dsimp only at H)
 have A3 := Aside0.mk A30
 clear A30
 by_cases c4 : t240 < 0
 ·
  rw [if_pos c4] at H
  have c4b0 : decide (t240 < 0) = true := decide_eq_true c4
  clear c4
  clear H
  go_enter Try.func4, Try.ntmps4
  go_wp2_with (first | ((with_reducible refine gate_dst (N := 2) rfl ?_); refine box_event ?hg (N := 2) ?hd (cs := #[.slice A0_0 l0_0.length c0_0, .slice A0_1 l0_1.length c0_1, .slice A0_2 l0_2.length c0_2, .slice A0_3 l0_3.length c0_3]) (t := 27) ?hr ?_; (case hd => rfl); (case hg => rfl); (case hr => first | (go_simp; done) | (go_simp; rfl)); intro gb238 hg w5 hbox hb; have n0_ := Aside0.mk (below_step z11_11 hb); have n1_ := Aside0.mk (hbox); have n2_ := Aside0.mk ((by rw [hg]; exact (below_size z11_11) : w.heap.size ≤ gb238)); have n3_ := Aside0.mk ((by rw [hg]; exact (below_size z11_11) : w.heap.size ≤ gb238)); clear HB; have HB := n0_; have BK238 := n1_; have GW238 := n2_; have GE238 := n3_; clear n0_ n1_ n2_ n3_; clear hb hbox hg) | ((with_reducible refine gate_dst (N := 3) rfl ?_); refine box_event ?hg (N := 3) ?hd (cs := #[.slice A1_0 l1_0.length c1_0, .slice A1_1 l1_1.length c1_1, .slice A1_2 l1_2.length c1_2, .slice A1_3 l1_3.length c1_3]) (t := 27) ?hr ?_; (case hd => rfl); (case hg => rfl); (case hr => first | (go_simp; done) | (go_simp; rfl)); intro gb239 hg w6 hbox hb; have n0_ := Aside0.mk (blk_below (g := gb238) (o := .cells #[.slice A0_0 l0_0.length c0_0, .slice A0_1 l0_1.length c0_1, .slice A0_2 l0_2.length c0_2, .slice A0_3 l0_3.length c0_3] 27 (0, 0)) z11_2 hb); have n1_ := Aside0.mk (below_step z11_5 hb); have n2_ := Aside0.mk (hbox); have n3_ := Aside0.mk ((by rw [hg]; exact (below_size z11_5) : w.heap.size ≤ gb239)); have n4_ := Aside0.mk ((by rw [hg]; exact (below_size z11_5) : w.heap.size ≤ gb239)); have n5_ := Aside0.mk ((by rw [hg]; exact Nat.ne_of_lt (blk_lt (g := gb238) (o := .cells #[.slice A0_0 l0_0.length c0_0, .slice A0_1 l0_1.length c0_1, .slice A0_2 l0_2.length c0_2, .slice A0_3 l0_3.length c0_3] 27 (0, 0)) z11_2) : gb238 ≠ gb239)); have n6_ := Aside0.mk ((by rw [hg]; exact Nat.ne_of_gt (blk_lt (g := gb238) (o := .cells #[.slice A0_0 l0_0.length c0_0, .slice A0_1 l0_1.length c0_1, .slice A0_2 l0_2.length c0_2, .slice A0_3 l0_3.length c0_3] 27 (0, 0)) z11_2) : gb239 ≠ gb238)); clear BK238; clear HB; have BK238 := n0_; have HB := n1_; have BK239 := n2_; have GW239 := n3_; have GE239 := n4_; have NB238_239 := n5_; have NB239_238 := n6_; clear n0_ n1_ n2_ n3_ n4_ n5_ n6_; clear hb hbox hg; have hnb7 := NB238_239.out; have hnc7 := NB239_238.out; have hcz8_0 : w6.cell? ⟨gb238, 0, none⟩ = some (.slice A0_0 l0_0.length c0_0) := (blk_cell BK238.out 0).trans rfl; have hcz8_1 : w6.cell? ⟨gb238, 1, none⟩ = some (.slice A0_1 l0_1.length c0_1) := (blk_cell BK238.out 1).trans rfl; have hcz8_2 : w6.cell? ⟨gb238, 2, none⟩ = some (.slice A0_2 l0_2.length c0_2) := (blk_cell BK238.out 2).trans rfl; have hcz8_3 : w6.cell? ⟨gb238, 3, none⟩ = some (.slice A0_3 l0_3.length c0_3) := (blk_cell BK238.out 3).trans rfl; have hfz8_0 := blk_frozen BK238.out 0; have hfz8_1 := blk_frozen BK238.out 1; have hfz8_2 := blk_frozen BK238.out 2; have hfz8_3 := blk_frozen BK238.out 3) | ((with_reducible refine gate_callee (f := 9) rfl ?_); refine goesL_ (some 12) rfl rfl Try.func9 z11_47 rfl #[.agg #[.slice A0_0 l0_0.length c0_0, .slice A0_1 l0_1.length c0_1, .slice A0_2 l0_2.length c0_2, .slice A0_3 l0_3.length c0_3], .int .i64 1048576] rfl z11_6 ?_; (with_reducible refine (laws_szState.calls k _ _ l0_0 _ _ l0_1 _ _ l0_2 _ _ l0_3 1048576 t240 _ ?side1 ?side2 ?side3 ?side4 ?side5 ?side6 ?side7 ?side8 A3.out).mono ?_); (case side1 => repeat (first | exact (Kd.C_below HR0_0.out HB.out) | (with_reducible refine Kd.C_alloc ?_ _) | (with_reducible refine Kd.C_drewN ?_ _) | (with_reducible refine Kd.C_drew ?_))); (case side2 => exact HC0_0.out); (case side3 => repeat (first | exact (Kd.C_below HR0_1.out HB.out) | (with_reducible refine Kd.C_alloc ?_ _) | (with_reducible refine Kd.C_drewN ?_ _) | (with_reducible refine Kd.C_drew ?_))); (case side4 => exact HC0_1.out); (case side5 => repeat (first | exact (Kd.C_below HR0_2.out HB.out) | (with_reducible refine Kd.C_alloc ?_ _) | (with_reducible refine Kd.C_drewN ?_ _) | (with_reducible refine Kd.C_drew ?_))); (case side6 => exact HC0_2.out); (case side7 => repeat (first | exact (Kd.C_below HR0_3.out HB.out) | (with_reducible refine Kd.C_alloc ?_ _) | (with_reducible refine Kd.C_drewN ?_ _) | (with_reducible refine Kd.C_drew ?_))); (case side8 => exact HC0_3.out); rintro e w9 ⟨rfl, hb⟩; refine ⟨_, rfl, ?_⟩; have n0_ := Aside0.mk (blk_below (g := gb238) (o := .cells #[.slice A0_0 l0_0.length c0_0, .slice A0_1 l0_1.length c0_1, .slice A0_2 l0_2.length c0_2, .slice A0_3 l0_3.length c0_3] 27 (0, 0)) z11_2 hb); have n1_ := Aside0.mk (blk_below (g := gb239) (o := .cells #[.slice A1_0 l1_0.length c1_0, .slice A1_1 l1_1.length c1_1, .slice A1_2 l1_2.length c1_2, .slice A1_3 l1_3.length c1_3] 27 (0, 0)) z11_4 hb); have n2_ := Aside0.mk (below_step z11_0 hb); clear BK238; clear BK239; clear HB; have BK238 := n0_; have BK239 := n1_; have HB := n2_; clear n0_ n1_ n2_))
  go_ret
  exact ⟨z11_52, z11_0⟩
 ·
  rw [if_neg c4] at H
  have c4b0 : decide (t240 < 0) = false := decide_eq_false c4
  clear c4
  replace H := Option.bind_eq_some_iff.mp H
  obtain ⟨t241, A100, H⟩ := H
  (try dsimp only at H)
  have A10 := Aside0.mk A100
  clear A100
  by_cases c11 : t241 < 0
  ·
   rw [if_pos c11] at H
   have c11b0 : decide (t241 < 0) = true := decide_eq_true c11
   clear c11
   clear H
   go_enter Try.func4, Try.ntmps4
   go_wp2_with (first | ((with_reducible refine gate_dst (N := 2) rfl ?_); refine box_event ?hg (N := 2) ?hd (cs := #[.slice A0_0 l0_0.length c0_0, .slice A0_1 l0_1.length c0_1, .slice A0_2 l0_2.length c0_2, .slice A0_3 l0_3.length c0_3]) (t := 27) ?hr ?_; (case hd => rfl); (case hg => rfl); (case hr => first | (go_simp; done) | (go_simp; rfl)); intro gb238 hg w12 hbox hb; have n0_ := Aside0.mk (below_step z11_11 hb); have n1_ := Aside0.mk (hbox); have n2_ := Aside0.mk ((by rw [hg]; exact (below_size z11_11) : w.heap.size ≤ gb238)); have n3_ := Aside0.mk ((by rw [hg]; exact (below_size z11_11) : w.heap.size ≤ gb238)); clear HB; have HB := n0_; have BK238 := n1_; have GW238 := n2_; have GE238 := n3_; clear n0_ n1_ n2_ n3_; clear hb hbox hg) | ((with_reducible refine gate_dst (N := 3) rfl ?_); refine box_event ?hg (N := 3) ?hd (cs := #[.slice A1_0 l1_0.length c1_0, .slice A1_1 l1_1.length c1_1, .slice A1_2 l1_2.length c1_2, .slice A1_3 l1_3.length c1_3]) (t := 27) ?hr ?_; (case hd => rfl); (case hg => rfl); (case hr => first | (go_simp; done) | (go_simp; rfl)); intro gb239 hg w13 hbox hb; have n0_ := Aside0.mk (blk_below (g := gb238) (o := .cells #[.slice A0_0 l0_0.length c0_0, .slice A0_1 l0_1.length c0_1, .slice A0_2 l0_2.length c0_2, .slice A0_3 l0_3.length c0_3] 27 (0, 0)) z11_2 hb); have n1_ := Aside0.mk (below_step z11_5 hb); have n2_ := Aside0.mk (hbox); have n3_ := Aside0.mk ((by rw [hg]; exact (below_size z11_5) : w.heap.size ≤ gb239)); have n4_ := Aside0.mk ((by rw [hg]; exact (below_size z11_5) : w.heap.size ≤ gb239)); have n5_ := Aside0.mk ((by rw [hg]; exact Nat.ne_of_lt (blk_lt (g := gb238) (o := .cells #[.slice A0_0 l0_0.length c0_0, .slice A0_1 l0_1.length c0_1, .slice A0_2 l0_2.length c0_2, .slice A0_3 l0_3.length c0_3] 27 (0, 0)) z11_2) : gb238 ≠ gb239)); have n6_ := Aside0.mk ((by rw [hg]; exact Nat.ne_of_gt (blk_lt (g := gb238) (o := .cells #[.slice A0_0 l0_0.length c0_0, .slice A0_1 l0_1.length c0_1, .slice A0_2 l0_2.length c0_2, .slice A0_3 l0_3.length c0_3] 27 (0, 0)) z11_2) : gb239 ≠ gb238)); clear BK238; clear HB; have BK238 := n0_; have HB := n1_; have BK239 := n2_; have GW239 := n3_; have GE239 := n4_; have NB238_239 := n5_; have NB239_238 := n6_; clear n0_ n1_ n2_ n3_ n4_ n5_ n6_; clear hb hbox hg; have hnb14 := NB238_239.out; have hnc14 := NB239_238.out; have hcz15_0 : w13.cell? ⟨gb238, 0, none⟩ = some (.slice A0_0 l0_0.length c0_0) := (blk_cell BK238.out 0).trans rfl; have hcz15_1 : w13.cell? ⟨gb238, 1, none⟩ = some (.slice A0_1 l0_1.length c0_1) := (blk_cell BK238.out 1).trans rfl; have hcz15_2 : w13.cell? ⟨gb238, 2, none⟩ = some (.slice A0_2 l0_2.length c0_2) := (blk_cell BK238.out 2).trans rfl; have hcz15_3 : w13.cell? ⟨gb238, 3, none⟩ = some (.slice A0_3 l0_3.length c0_3) := (blk_cell BK238.out 3).trans rfl; have hfz15_0 := blk_frozen BK238.out 0; have hfz15_1 := blk_frozen BK238.out 1; have hfz15_2 := blk_frozen BK238.out 2; have hfz15_3 := blk_frozen BK238.out 3) | ((with_reducible refine gate_callee (f := 9) rfl ?_); refine goesL_ (some 12) rfl rfl Try.func9 z11_47 rfl #[.agg #[.slice A0_0 l0_0.length c0_0, .slice A0_1 l0_1.length c0_1, .slice A0_2 l0_2.length c0_2, .slice A0_3 l0_3.length c0_3], .int .i64 1048576] rfl z11_6 ?_; (with_reducible refine (laws_szState.calls k _ _ l0_0 _ _ l0_1 _ _ l0_2 _ _ l0_3 1048576 t240 _ ?side1 ?side2 ?side3 ?side4 ?side5 ?side6 ?side7 ?side8 A3.out).mono ?_); (case side1 => repeat (first | exact (Kd.C_below HR0_0.out HB.out) | (with_reducible refine Kd.C_alloc ?_ _) | (with_reducible refine Kd.C_drewN ?_ _) | (with_reducible refine Kd.C_drew ?_))); (case side2 => exact HC0_0.out); (case side3 => repeat (first | exact (Kd.C_below HR0_1.out HB.out) | (with_reducible refine Kd.C_alloc ?_ _) | (with_reducible refine Kd.C_drewN ?_ _) | (with_reducible refine Kd.C_drew ?_))); (case side4 => exact HC0_1.out); (case side5 => repeat (first | exact (Kd.C_below HR0_2.out HB.out) | (with_reducible refine Kd.C_alloc ?_ _) | (with_reducible refine Kd.C_drewN ?_ _) | (with_reducible refine Kd.C_drew ?_))); (case side6 => exact HC0_2.out); (case side7 => repeat (first | exact (Kd.C_below HR0_3.out HB.out) | (with_reducible refine Kd.C_alloc ?_ _) | (with_reducible refine Kd.C_drewN ?_ _) | (with_reducible refine Kd.C_drew ?_))); (case side8 => exact HC0_3.out); rintro e w16 ⟨rfl, hb⟩; refine ⟨_, rfl, ?_⟩; have n0_ := Aside0.mk (blk_below (g := gb238) (o := .cells #[.slice A0_0 l0_0.length c0_0, .slice A0_1 l0_1.length c0_1, .slice A0_2 l0_2.length c0_2, .slice A0_3 l0_3.length c0_3] 27 (0, 0)) z11_2 hb); have n1_ := Aside0.mk (blk_below (g := gb239) (o := .cells #[.slice A1_0 l1_0.length c1_0, .slice A1_1 l1_1.length c1_1, .slice A1_2 l1_2.length c1_2, .slice A1_3 l1_3.length c1_3] 27 (0, 0)) z11_4 hb); have n2_ := Aside0.mk (below_step z11_0 hb); clear BK238; clear BK239; clear HB; have BK238 := n0_; have BK239 := n1_; have HB := n2_; clear n0_ n1_ n2_; have hcz17_0 : w16.cell? ⟨gb239, 0, none⟩ = some (.slice A1_0 l1_0.length c1_0) := (blk_cell BK239.out 0).trans rfl; have hcz17_1 : w16.cell? ⟨gb239, 1, none⟩ = some (.slice A1_1 l1_1.length c1_1) := (blk_cell BK239.out 1).trans rfl; have hcz17_2 : w16.cell? ⟨gb239, 2, none⟩ = some (.slice A1_2 l1_2.length c1_2) := (blk_cell BK239.out 2).trans rfl; have hcz17_3 : w16.cell? ⟨gb239, 3, none⟩ = some (.slice A1_3 l1_3.length c1_3) := (blk_cell BK239.out 3).trans rfl; have hfz17_0 := blk_frozen BK239.out 0; have hfz17_1 := blk_frozen BK239.out 1; have hfz17_2 := blk_frozen BK239.out 2; have hfz17_3 := blk_frozen BK239.out 3) | ((with_reducible refine gate_callee (f := 9) rfl ?_); refine goesL_ (some 17) rfl rfl Try.func9 z11_47 rfl #[.agg #[.slice A1_0 l1_0.length c1_0, .slice A1_1 l1_1.length c1_1, .slice A1_2 l1_2.length c1_2, .slice A1_3 l1_3.length c1_3], .int .i64 t240] rfl z11_6 ?_; (with_reducible refine (laws_szState.calls k _ _ l1_0 _ _ l1_1 _ _ l1_2 _ _ l1_3 t240 t241 _ ?side1 ?side2 ?side3 ?side4 ?side5 ?side6 ?side7 ?side8 A10.out).mono ?_); (case side1 => repeat (first | exact (Kd.C_below HR1_0.out HB.out) | (with_reducible refine Kd.C_alloc ?_ _) | (with_reducible refine Kd.C_drewN ?_ _) | (with_reducible refine Kd.C_drew ?_))); (case side2 => exact HC1_0.out); (case side3 => repeat (first | exact (Kd.C_below HR1_1.out HB.out) | (with_reducible refine Kd.C_alloc ?_ _) | (with_reducible refine Kd.C_drewN ?_ _) | (with_reducible refine Kd.C_drew ?_))); (case side4 => exact HC1_1.out); (case side5 => repeat (first | exact (Kd.C_below HR1_2.out HB.out) | (with_reducible refine Kd.C_alloc ?_ _) | (with_reducible refine Kd.C_drewN ?_ _) | (with_reducible refine Kd.C_drew ?_))); (case side6 => exact HC1_2.out); (case side7 => repeat (first | exact (Kd.C_below HR1_3.out HB.out) | (with_reducible refine Kd.C_alloc ?_ _) | (with_reducible refine Kd.C_drewN ?_ _) | (with_reducible refine Kd.C_drew ?_))); (case side8 => exact HC1_3.out); rintro e w18 ⟨rfl, hb⟩; refine ⟨_, rfl, ?_⟩; have n0_ := Aside0.mk (blk_below (g := gb238) (o := .cells #[.slice A0_0 l0_0.length c0_0, .slice A0_1 l0_1.length c0_1, .slice A0_2 l0_2.length c0_2, .slice A0_3 l0_3.length c0_3] 27 (0, 0)) z11_2 hb); have n1_ := Aside0.mk (blk_below (g := gb239) (o := .cells #[.slice A1_0 l1_0.length c1_0, .slice A1_1 l1_1.length c1_1, .slice A1_2 l1_2.length c1_2, .slice A1_3 l1_3.length c1_3] 27 (0, 0)) z11_4 hb); have n2_ := Aside0.mk (below_step z11_0 hb); clear BK238; clear BK239; clear HB; have BK238 := n0_; have BK239 := n1_; have HB := n2_; clear n0_ n1_ n2_))
   go_ret
   exact ⟨z11_52, z11_0⟩
  ·
   rw [if_neg c11] at H
   have c11b0 : decide (t241 < 0) = false := decide_eq_false c11
   clear c11
   replace H := Option.bind_eq_some_iff.mp H
   obtain ⟨⟨t242, t245, t248, t251⟩, A190, H⟩ := H
   (try dsimp only at H)
   have A19 := Aside0.mk A190
   clear A190
   replace H := Option.bind_eq_some_iff.mp H
   obtain ⟨⟨t254, t257, t260, t263⟩, A200, H⟩ := H
   (try dsimp only at H)
   have A20 := Aside0.mk A200
   clear A200
   replace H := Option.bind_eq_some_iff.mp H
   obtain ⟨t266, A210, H⟩ := H
   (try dsimp only at H)
   have A21 := Aside0.mk A210
   clear A210
   replace H := Option.bind_eq_some_iff.mp H
   obtain ⟨⟨t267, t270, t273, t276⟩, A220, H⟩ := H
   (try dsimp only at H)
   have A22 := Aside0.mk A220
   clear A220
   replace H := Option.bind_eq_some_iff.mp H
   obtain ⟨⟨t280, t283, t286, t289⟩, A230, H⟩ := H
   (try dsimp only at H)
   have A23 := Aside0.mk A230
   clear A230
   replace H := Option.bind_eq_some_iff.mp H
   obtain ⟨t293, A240, H⟩ := H
   (try dsimp only at H)
   have A24 := Aside0.mk A240
   clear A240
   by_cases c25 : (t293 != t266) = true
   ·
    rw [if_pos c25] at H
    have c25b0 : (t293 != t266) = true := c25
    (try (have c25b1 : decide (t293 = t266) = false := by simpa using c25))
    (try (have c25b2 : (t293 == t266) = false := by simpa using c25))
    (try (have c25b3 : ¬ (t293 = t266) := by simpa using c25))
    clear c25
    exact absurd H (by simp)
   ·
    rw [if_neg c25] at H
    have c25b0 : (t293 != t266) = false := by simpa using c25
    (try (have c25b1 : decide (t293 = t266) = true := by simpa using c25))
    (try (have c25b2 : (t293 == t266) = true := by simpa using c25))
    clear c25
    replace H := Option.bind_eq_some_iff.mp H
    obtain ⟨⟨t294, t297, t300, t303⟩, A260, H⟩ := H
    (try dsimp only at H)
    have A26 := Aside0.mk A260
    clear A260
    replace H := Option.bind_eq_some_iff.mp H
    obtain ⟨t306, A270, H⟩ := H
    (try dsimp only at H)
    have A27 := Aside0.mk A270
    clear A270
    by_cases c28 : t306 = true
    ·
     subst c28
     rw [if_pos rfl] at H
     replace H := Option.bind_eq_some_iff.mp H
     obtain ⟨⟨t307, t310, t313, t316⟩, A290, H⟩ := H
     (try dsimp only at H)
     have A29 := Aside0.mk A290
     clear A290
     replace H := Option.bind_eq_some_iff.mp H
     obtain ⟨t319, A300, H⟩ := H
     (try dsimp only at H)
     have A30 := Aside0.mk A300
     clear A300
     by_cases c31 : t319 = true
     ·
      subst c31
      have H1 : (some true) = some true := rfl
      clear H
      have H := H1
      clear H1
      clear H
      go_enter Try.func4, Try.ntmps4
      try go_wp2_with (first | ((with_reducible refine gate_dst (N := 2) rfl ?_); refine box_event ?hg (N := 2) ?hd (cs := #[.slice A0_0 l0_0.length c0_0, .slice A0_1 l0_1.length c0_1, .slice A0_2 l0_2.length c0_2, .slice A0_3 l0_3.length c0_3]) (t := 27) ?hr ?_; (case hd => rfl); (case hg => rfl); (case hr => first | (go_simp; done) | (go_simp; rfl)); intro gb238 hg w32 hbox hb; have n0_ := Aside0.mk (below_step z11_11 hb); have n1_ := Aside0.mk (hbox); have n2_ := Aside0.mk ((by rw [hg]; exact (below_size z11_11) : w.heap.size ≤ gb238)); have n3_ := Aside0.mk ((by rw [hg]; exact (below_size z11_11) : w.heap.size ≤ gb238)); clear HB; have HB := n0_; have BK238 := n1_; have GW238 := n2_; have GE238 := n3_; clear n0_ n1_ n2_ n3_; clear hb hbox hg) | ((with_reducible refine gate_dst (N := 3) rfl ?_); refine box_event ?hg (N := 3) ?hd (cs := #[.slice A1_0 l1_0.length c1_0, .slice A1_1 l1_1.length c1_1, .slice A1_2 l1_2.length c1_2, .slice A1_3 l1_3.length c1_3]) (t := 27) ?hr ?_; (case hd => rfl); (case hg => rfl); (case hr => first | (go_simp; done) | (go_simp; rfl)); intro gb239 hg w33 hbox hb; have n0_ := Aside0.mk (blk_below (g := gb238) (o := .cells #[.slice A0_0 l0_0.length c0_0, .slice A0_1 l0_1.length c0_1, .slice A0_2 l0_2.length c0_2, .slice A0_3 l0_3.length c0_3] 27 (0, 0)) z11_2 hb); have n1_ := Aside0.mk (below_step z11_5 hb); have n2_ := Aside0.mk (hbox); have n3_ := Aside0.mk ((by rw [hg]; exact (below_size z11_5) : w.heap.size ≤ gb239)); have n4_ := Aside0.mk ((by rw [hg]; exact (below_size z11_5) : w.heap.size ≤ gb239)); have n5_ := Aside0.mk ((by rw [hg]; exact Nat.ne_of_lt (blk_lt (g := gb238) (o := .cells #[.slice A0_0 l0_0.length c0_0, .slice A0_1 l0_1.length c0_1, .slice A0_2 l0_2.length c0_2, .slice A0_3 l0_3.length c0_3] 27 (0, 0)) z11_2) : gb238 ≠ gb239)); have n6_ := Aside0.mk ((by rw [hg]; exact Nat.ne_of_gt (blk_lt (g := gb238) (o := .cells #[.slice A0_0 l0_0.length c0_0, .slice A0_1 l0_1.length c0_1, .slice A0_2 l0_2.length c0_2, .slice A0_3 l0_3.length c0_3] 27 (0, 0)) z11_2) : gb239 ≠ gb238)); clear BK238; clear HB; have BK238 := n0_; have HB := n1_; have BK239 := n2_; have GW239 := n3_; have GE239 := n4_; have NB238_239 := n5_; have NB239_238 := n6_; clear n0_ n1_ n2_ n3_ n4_ n5_ n6_; clear hb hbox hg; have hnb34 := NB238_239.out; have hnc34 := NB239_238.out; have hcz35_0 : w33.cell? ⟨gb238, 0, none⟩ = some (.slice A0_0 l0_0.length c0_0) := (blk_cell BK238.out 0).trans rfl; have hcz35_1 : w33.cell? ⟨gb238, 1, none⟩ = some (.slice A0_1 l0_1.length c0_1) := (blk_cell BK238.out 1).trans rfl; have hcz35_2 : w33.cell? ⟨gb238, 2, none⟩ = some (.slice A0_2 l0_2.length c0_2) := (blk_cell BK238.out 2).trans rfl; have hcz35_3 : w33.cell? ⟨gb238, 3, none⟩ = some (.slice A0_3 l0_3.length c0_3) := (blk_cell BK238.out 3).trans rfl; have hfz35_0 := blk_frozen BK238.out 0; have hfz35_1 := blk_frozen BK238.out 1; have hfz35_2 := blk_frozen BK238.out 2; have hfz35_3 := blk_frozen BK238.out 3) | ((with_reducible refine gate_callee (f := 9) rfl ?_); refine goesL_ (some 12) rfl rfl Try.func9 z11_47 rfl #[.agg #[.slice A0_0 l0_0.length c0_0, .slice A0_1 l0_1.length c0_1, .slice A0_2 l0_2.length c0_2, .slice A0_3 l0_3.length c0_3], .int .i64 1048576] rfl z11_6 ?_; (with_reducible refine (laws_szState.calls k _ _ l0_0 _ _ l0_1 _ _ l0_2 _ _ l0_3 1048576 t240 _ ?side1 ?side2 ?side3 ?side4 ?side5 ?side6 ?side7 ?side8 A3.out).mono ?_); (case side1 => repeat (first | exact (Kd.C_below HR0_0.out HB.out) | (with_reducible refine Kd.C_alloc ?_ _) | (with_reducible refine Kd.C_drewN ?_ _) | (with_reducible refine Kd.C_drew ?_))); (case side2 => exact HC0_0.out); (case side3 => repeat (first | exact (Kd.C_below HR0_1.out HB.out) | (with_reducible refine Kd.C_alloc ?_ _) | (with_reducible refine Kd.C_drewN ?_ _) | (with_reducible refine Kd.C_drew ?_))); (case side4 => exact HC0_1.out); (case side5 => repeat (first | exact (Kd.C_below HR0_2.out HB.out) | (with_reducible refine Kd.C_alloc ?_ _) | (with_reducible refine Kd.C_drewN ?_ _) | (with_reducible refine Kd.C_drew ?_))); (case side6 => exact HC0_2.out); (case side7 => repeat (first | exact (Kd.C_below HR0_3.out HB.out) | (with_reducible refine Kd.C_alloc ?_ _) | (with_reducible refine Kd.C_drewN ?_ _) | (with_reducible refine Kd.C_drew ?_))); (case side8 => exact HC0_3.out); rintro e w36 ⟨rfl, hb⟩; refine ⟨_, rfl, ?_⟩; have n0_ := Aside0.mk (blk_below (g := gb238) (o := .cells #[.slice A0_0 l0_0.length c0_0, .slice A0_1 l0_1.length c0_1, .slice A0_2 l0_2.length c0_2, .slice A0_3 l0_3.length c0_3] 27 (0, 0)) z11_2 hb); have n1_ := Aside0.mk (blk_below (g := gb239) (o := .cells #[.slice A1_0 l1_0.length c1_0, .slice A1_1 l1_1.length c1_1, .slice A1_2 l1_2.length c1_2, .slice A1_3 l1_3.length c1_3] 27 (0, 0)) z11_4 hb); have n2_ := Aside0.mk (below_step z11_0 hb); clear BK238; clear BK239; clear HB; have BK238 := n0_; have BK239 := n1_; have HB := n2_; clear n0_ n1_ n2_; have hcz37_0 : w36.cell? ⟨gb239, 0, none⟩ = some (.slice A1_0 l1_0.length c1_0) := (blk_cell BK239.out 0).trans rfl; have hcz37_1 : w36.cell? ⟨gb239, 1, none⟩ = some (.slice A1_1 l1_1.length c1_1) := (blk_cell BK239.out 1).trans rfl; have hcz37_2 : w36.cell? ⟨gb239, 2, none⟩ = some (.slice A1_2 l1_2.length c1_2) := (blk_cell BK239.out 2).trans rfl; have hcz37_3 : w36.cell? ⟨gb239, 3, none⟩ = some (.slice A1_3 l1_3.length c1_3) := (blk_cell BK239.out 3).trans rfl; have hfz37_0 := blk_frozen BK239.out 0; have hfz37_1 := blk_frozen BK239.out 1; have hfz37_2 := blk_frozen BK239.out 2; have hfz37_3 := blk_frozen BK239.out 3) | ((with_reducible refine gate_callee (f := 9) rfl ?_); refine goesL_ (some 17) rfl rfl Try.func9 z11_47 rfl #[.agg #[.slice A1_0 l1_0.length c1_0, .slice A1_1 l1_1.length c1_1, .slice A1_2 l1_2.length c1_2, .slice A1_3 l1_3.length c1_3], .int .i64 t240] rfl z11_6 ?_; (with_reducible refine (laws_szState.calls k _ _ l1_0 _ _ l1_1 _ _ l1_2 _ _ l1_3 t240 t241 _ ?side1 ?side2 ?side3 ?side4 ?side5 ?side6 ?side7 ?side8 A10.out).mono ?_); (case side1 => repeat (first | exact (Kd.C_below HR1_0.out HB.out) | (with_reducible refine Kd.C_alloc ?_ _) | (with_reducible refine Kd.C_drewN ?_ _) | (with_reducible refine Kd.C_drew ?_))); (case side2 => exact HC1_0.out); (case side3 => repeat (first | exact (Kd.C_below HR1_1.out HB.out) | (with_reducible refine Kd.C_alloc ?_ _) | (with_reducible refine Kd.C_drewN ?_ _) | (with_reducible refine Kd.C_drew ?_))); (case side4 => exact HC1_1.out); (case side5 => repeat (first | exact (Kd.C_below HR1_2.out HB.out) | (with_reducible refine Kd.C_alloc ?_ _) | (with_reducible refine Kd.C_drewN ?_ _) | (with_reducible refine Kd.C_drew ?_))); (case side6 => exact HC1_2.out); (case side7 => repeat (first | exact (Kd.C_below HR1_3.out HB.out) | (with_reducible refine Kd.C_alloc ?_ _) | (with_reducible refine Kd.C_drewN ?_ _) | (with_reducible refine Kd.C_drew ?_))); (case side8 => exact HC1_3.out); rintro e w38 ⟨rfl, hb⟩; refine ⟨_, rfl, ?_⟩; have n0_ := Aside0.mk (blk_below (g := gb238) (o := .cells #[.slice A0_0 l0_0.length c0_0, .slice A0_1 l0_1.length c0_1, .slice A0_2 l0_2.length c0_2, .slice A0_3 l0_3.length c0_3] 27 (0, 0)) z11_2 hb); have n1_ := Aside0.mk (blk_below (g := gb239) (o := .cells #[.slice A1_0 l1_0.length c1_0, .slice A1_1 l1_1.length c1_1, .slice A1_2 l1_2.length c1_2, .slice A1_3 l1_3.length c1_3] 27 (0, 0)) z11_4 hb); have n2_ := Aside0.mk (below_step z11_0 hb); clear BK238; clear BK239; clear HB; have BK238 := n0_; have BK239 := n1_; have HB := n2_; clear n0_ n1_ n2_))
      have n0_ := Aside0.mk (blk_drew BK238.out)
      have n1_ := Aside0.mk (blk_drew BK239.out)
      have n2_ := Aside0.mk (below_drew1 HB.out)
      clear BK238
      clear BK239
      clear HB
      have BK238 := n0_
      have BK239 := n1_
      have HB := n2_
      clear n0_ n1_ n2_
      refine start_ (n := 6) (S := fun w' => w'.cell? ⟨gb238, 0, none⟩ = some (.slice A0_0 l0_0.length c0_0) ∧ w'.cell? ⟨gb238, 1, none⟩ = some (.slice A0_1 l0_1.length c0_1) ∧ w'.cell? ⟨gb238, 2, none⟩ = some (.slice A0_2 l0_2.length c0_2) ∧ w'.cell? ⟨gb238, 3, none⟩ = some (.slice A0_3 l0_3.length c0_3) ∧ w'.cell? ⟨gb239, 0, none⟩ = some (.slice A1_0 l1_0.length c1_0) ∧ w'.cell? ⟨gb239, 1, none⟩ = some (.slice A1_1 l1_1.length c1_1) ∧ w'.cell? ⟨gb239, 2, none⟩ = some (.slice A1_2 l1_2.length c1_2) ∧ w'.cell? ⟨gb239, 3, none⟩ = some (.slice A1_3 l1_3.length c1_3)) (ds := []) #[false, false, false, false, false, false] z11_47 rfl rfl ⟨(blk_cell BK238.out 0).trans rfl, (blk_cell BK238.out 1).trans rfl, (blk_cell BK238.out 2).trans rfl, (blk_cell BK238.out 3).trans rfl, (blk_cell BK239.out 0).trans rfl, (blk_cell BK239.out 1).trans rfl, (blk_cell BK239.out 2).trans rfl, (blk_cell BK239.out 3).trans rfl⟩ (fun hHeld => ?_)
      generalize w38.drew = w39 at BK238 BK239 HB hHeld ⊢
      refine take_ (i := 0) (N := some 20) (v := ?_) (a' := ?_) #[true, false, false, false, false, false] rfl rfl z11_47 (fun _ _ _ h => h) (Or.inl ⟨by rfl, ?_⟩) hHeld ?_ ?_
      rotate_left
      ·
       rintro w' ⟨s0, s1, s2, s3, s4, s5, s6, s7⟩
       go_simp
       with_reducible rfl
      rotate_left
      ·
       exact z11_16
      refine take_ (i := 2) (N := some 22) (v := ?_) (a' := ?_) #[true, false, true, false, false, false] rfl rfl z11_47 (fun _ _ _ h => h) (Or.inl ⟨by rfl, ?_⟩) hHeld ?_ ?_
      rotate_left
      ·
       rintro w' ⟨s0, s1, s2, s3, s4, s5, s6, s7⟩
       go_simp
       with_reducible rfl
      rotate_left
      ·
       exact z11_16
      refine one_ (i := 1) (N := some 21) #[true, true, true, false, false, false] rfl rfl z11_47 (by decide) (fun K hK => ?_)
      refine goes_ Try.func11 z11_47 rfl #[.agg #[.slice A0_0 l0_0.length c0_0, .slice A0_1 l0_1.length c0_1, .slice A0_2 l0_2.length c0_2, .slice A0_3 l0_3.length c0_3]] (by rfl) rfl rfl z11_6 ?_
      with_reducible refine (laws_toState.calls k _ _ l0_0 _ _ l0_1 _ _ l0_2 _ _ l0_3 t242 t245 t248 t251 _ ?side1 ?side2 ?side3 ?side4 ?side5 ?side6 ?side7 ?side8 A19.out).mono ?_
      (case side1 => repeat (first | exact (Kd.C_below HR0_0.out HB.out) | (with_reducible refine Kd.C_alloc ?_ _) | (with_reducible refine Kd.C_drewN ?_ _) | (with_reducible refine Kd.C_drew ?_)))
      (case side2 => exact HC0_0.out)
      (case side3 => repeat (first | exact (Kd.C_below HR0_1.out HB.out) | (with_reducible refine Kd.C_alloc ?_ _) | (with_reducible refine Kd.C_drewN ?_ _) | (with_reducible refine Kd.C_drew ?_)))
      (case side4 => exact HC0_1.out)
      (case side5 => repeat (first | exact (Kd.C_below HR0_2.out HB.out) | (with_reducible refine Kd.C_alloc ?_ _) | (with_reducible refine Kd.C_drewN ?_ _) | (with_reducible refine Kd.C_drew ?_)))
      (case side6 => exact HC0_2.out)
      (case side7 => repeat (first | exact (Kd.C_below HR0_3.out HB.out) | (with_reducible refine Kd.C_alloc ?_ _) | (with_reducible refine Kd.C_drewN ?_ _) | (with_reducible refine Kd.C_drew ?_)))
      (case side8 => exact HC0_3.out)
      rintro e w40 ⟨v243, v246, v249, v252, rfl, ho0, ho1, ho2, ho3, hb⟩
      refine ⟨_, rfl, ?_⟩
      have n0_ := Aside0.mk (Kd.R_lower ho0 (below_size z11_0))
      have n1_ := Aside0.mk (Kd.R_lower ho1 (below_size z11_0))
      have n2_ := Aside0.mk (Kd.R_lower ho2 (below_size z11_0))
      have n3_ := Aside0.mk (Kd.R_lower ho3 (below_size z11_0))
      have n4_ := Aside0.mk (blk_below (g := gb238) (o := .cells #[.slice A0_0 l0_0.length c0_0, .slice A0_1 l0_1.length c0_1, .slice A0_2 l0_2.length c0_2, .slice A0_3 l0_3.length c0_3] 27 (0, 0)) z11_2 hb)
      have n5_ := Aside0.mk (blk_below (g := gb239) (o := .cells #[.slice A1_0 l1_0.length c1_0, .slice A1_1 l1_1.length c1_1, .slice A1_2 l1_2.length c1_2, .slice A1_3 l1_3.length c1_3] 27 (0, 0)) z11_4 hb)
      have n6_ := Aside0.mk (below_step z11_0 hb)
      clear BK238
      clear BK239
      clear HB
      have HO244 := n0_
      have HO247 := n1_
      have HO250 := n2_
      have HO253 := n3_
      have BK238 := n4_
      have BK239 := n5_
      have HB := n6_
      clear n0_ n1_ n2_ n3_ n4_ n5_ n6_
      (try clear hb)
      (try clear hb2)
      (try clear hk)
      (try clear hi)
      (try clear ho0)
      (try clear ho1)
      (try clear ho2)
      (try clear ho3)
      refine hK.out _ _ ⟨(blk_cell BK238.out 0).trans rfl, (blk_cell BK238.out 1).trans rfl, (blk_cell BK238.out 2).trans rfl, (blk_cell BK238.out 3).trans rfl, (blk_cell BK239.out 0).trans rfl, (blk_cell BK239.out 1).trans rfl, (blk_cell BK239.out 2).trans rfl, (blk_cell BK239.out 3).trans rfl⟩ (fun hHeld => ?_)
      clear hK K
      refine norm_ (a' := ?_) ?_ ?_
      rotate_left
      ·
       show Act.put _ (some 21) _ = _
       simp only [Act.put, List.setIfInBounds_toArray, List.set_cons_zero, List.set_cons_succ, i64_w, i32_w]
       rfl
      refine one_ (i := 3) (N := some 23) #[true, true, true, true, false, false] rfl rfl z11_47 (by decide) (fun K hK => ?_)
      refine goes_ Try.func11 z11_47 rfl #[.agg #[.slice A1_0 l1_0.length c1_0, .slice A1_1 l1_1.length c1_1, .slice A1_2 l1_2.length c1_2, .slice A1_3 l1_3.length c1_3]] (by rfl) rfl rfl z11_6 ?_
      with_reducible refine (laws_toState.calls k _ _ l1_0 _ _ l1_1 _ _ l1_2 _ _ l1_3 t254 t257 t260 t263 _ ?side1 ?side2 ?side3 ?side4 ?side5 ?side6 ?side7 ?side8 A20.out).mono ?_
      (case side1 => repeat (first | exact (Kd.C_below HR1_0.out HB.out) | (with_reducible refine Kd.C_alloc ?_ _) | (with_reducible refine Kd.C_drewN ?_ _) | (with_reducible refine Kd.C_drew ?_)))
      (case side2 => exact HC1_0.out)
      (case side3 => repeat (first | exact (Kd.C_below HR1_1.out HB.out) | (with_reducible refine Kd.C_alloc ?_ _) | (with_reducible refine Kd.C_drewN ?_ _) | (with_reducible refine Kd.C_drew ?_)))
      (case side4 => exact HC1_1.out)
      (case side5 => repeat (first | exact (Kd.C_below HR1_2.out HB.out) | (with_reducible refine Kd.C_alloc ?_ _) | (with_reducible refine Kd.C_drewN ?_ _) | (with_reducible refine Kd.C_drew ?_)))
      (case side6 => exact HC1_2.out)
      (case side7 => repeat (first | exact (Kd.C_below HR1_3.out HB.out) | (with_reducible refine Kd.C_alloc ?_ _) | (with_reducible refine Kd.C_drewN ?_ _) | (with_reducible refine Kd.C_drew ?_)))
      (case side8 => exact HC1_3.out)
      rintro e w41 ⟨v255, v258, v261, v264, rfl, ho0, ho1, ho2, ho3, hb⟩
      refine ⟨_, rfl, ?_⟩
      have n0_ := Aside0.mk (Kd.R_elder' z11_10 (Kd.R_base ho0) hb)
      have n1_ := Aside0.mk (Kd.R_elder' z11_9 (Kd.R_base ho1) hb)
      have n2_ := Aside0.mk (Kd.R_elder' z11_8 (Kd.R_base ho2) hb)
      have n3_ := Aside0.mk (Kd.R_elder' z11_7 (Kd.R_base ho3) hb)
      have n4_ := Aside0.mk (Kd.R_lower (Kd.R_new' ho0 (Kd.R_lt z11_10)) (below_size z11_0))
      have n5_ := Aside0.mk (Kd.R_lower (Kd.R_new' ho1 (Kd.R_lt z11_9)) (below_size z11_0))
      have n6_ := Aside0.mk (Kd.R_lower (Kd.R_new' ho2 (Kd.R_lt z11_8)) (below_size z11_0))
      have n7_ := Aside0.mk (Kd.R_lower (Kd.R_new' ho3 (Kd.R_lt z11_7)) (below_size z11_0))
      have n8_ := Aside0.mk (blk_below (g := gb238) (o := .cells #[.slice A0_0 l0_0.length c0_0, .slice A0_1 l0_1.length c0_1, .slice A0_2 l0_2.length c0_2, .slice A0_3 l0_3.length c0_3] 27 (0, 0)) z11_2 hb)
      have n9_ := Aside0.mk (blk_below (g := gb239) (o := .cells #[.slice A1_0 l1_0.length c1_0, .slice A1_1 l1_1.length c1_1, .slice A1_2 l1_2.length c1_2, .slice A1_3 l1_3.length c1_3] 27 (0, 0)) z11_4 hb)
      have n10_ := Aside0.mk (below_step z11_0 hb)
      clear HO244
      clear HO247
      clear HO250
      clear HO253
      clear BK238
      clear BK239
      clear HB
      have HO244 := n0_
      have HO247 := n1_
      have HO250 := n2_
      have HO253 := n3_
      have HO256 := n4_
      have HO259 := n5_
      have HO262 := n6_
      have HO265 := n7_
      have BK238 := n8_
      have BK239 := n9_
      have HB := n10_
      clear n0_ n1_ n2_ n3_ n4_ n5_ n6_ n7_ n8_ n9_ n10_
      (try clear hb)
      (try clear hb2)
      (try clear hk)
      (try clear hi)
      (try clear ho0)
      (try clear ho1)
      (try clear ho2)
      (try clear ho3)
      obtain ⟨Ao42, co42, eo42⟩ := Kd.R_slice HO244.out
      (first | subst eo42 | (injection eo42 with f1_ f2_ f3_; have f4_ := f1_.symm; have f5_ := f3_.symm; clear f1_ f2_ f3_; subst f4_; subst f5_))
      obtain ⟨Ao43, co43, eo43⟩ := Kd.R_slice HO247.out
      (first | subst eo43 | (injection eo43 with f1_ f2_ f3_; have f4_ := f1_.symm; have f5_ := f3_.symm; clear f1_ f2_ f3_; subst f4_; subst f5_))
      obtain ⟨Ao44, co44, eo44⟩ := Kd.R_slice HO250.out
      (first | subst eo44 | (injection eo44 with f1_ f2_ f3_; have f4_ := f1_.symm; have f5_ := f3_.symm; clear f1_ f2_ f3_; subst f4_; subst f5_))
      obtain ⟨Ao45, co45, eo45⟩ := Kd.R_slice HO253.out
      (first | subst eo45 | (injection eo45 with f1_ f2_ f3_; have f4_ := f1_.symm; have f5_ := f3_.symm; clear f1_ f2_ f3_; subst f4_; subst f5_))
      obtain ⟨Ao46, co46, eo46⟩ := Kd.R_slice HO256.out
      (first | subst eo46 | (injection eo46 with f1_ f2_ f3_; have f4_ := f1_.symm; have f5_ := f3_.symm; clear f1_ f2_ f3_; subst f4_; subst f5_))
      obtain ⟨Ao47, co47, eo47⟩ := Kd.R_slice HO259.out
      (first | subst eo47 | (injection eo47 with f1_ f2_ f3_; have f4_ := f1_.symm; have f5_ := f3_.symm; clear f1_ f2_ f3_; subst f4_; subst f5_))
      obtain ⟨Ao48, co48, eo48⟩ := Kd.R_slice HO262.out
      (first | subst eo48 | (injection eo48 with f1_ f2_ f3_; have f4_ := f1_.symm; have f5_ := f3_.symm; clear f1_ f2_ f3_; subst f4_; subst f5_))
      obtain ⟨Ao49, co49, eo49⟩ := Kd.R_slice HO265.out
      (first | subst eo49 | (injection eo49 with f1_ f2_ f3_; have f4_ := f1_.symm; have f5_ := f3_.symm; clear f1_ f2_ f3_; subst f4_; subst f5_))
      refine hK.out _ _ ⟨(blk_cell BK238.out 0).trans rfl, (blk_cell BK238.out 1).trans rfl, (blk_cell BK238.out 2).trans rfl, (blk_cell BK238.out 3).trans rfl, (blk_cell BK239.out 0).trans rfl, (blk_cell BK239.out 1).trans rfl, (blk_cell BK239.out 2).trans rfl, (blk_cell BK239.out 3).trans rfl⟩ (fun hHeld => ?_)
      clear hK K
      refine norm_ (a' := ?_) ?_ ?_
      rotate_left
      ·
       show Act.put _ (some 23) _ = _
       simp only [Act.put, List.setIfInBounds_toArray, List.set_cons_zero, List.set_cons_succ, i64_w, i32_w]
       rfl
      refine one_ (i := 4) (N := some 24) #[true, true, true, true, true, false] rfl rfl z11_47 (by decide) (fun K hK => ?_)
      refine goes_ Try.func15 z11_47 rfl #[.agg #[.slice Ao42 t242.length co42, .slice Ao43 t245.length co43, .slice Ao44 t248.length co44, .slice Ao45 t251.length co45], .agg #[.slice Ao46 t254.length co46, .slice Ao47 t257.length co47, .slice Ao48 t260.length co48, .slice Ao49 t263.length co49]] (by rfl) rfl rfl z11_6 ?_
      with_reducible refine (spec_SameState.calls k _ _ t242 _ _ t245 _ _ t248 _ _ t251 _ _ t254 _ _ t257 _ _ t260 _ _ t263 t266 _ ?side1 ?side2 ?side3 ?side4 ?side5 ?side6 ?side7 ?side8 ?side9 ?side10 ?side11 ?side12 ?side13 ?side14 ?side15 ?side16 A21.out).mono ?_
      (case side1 => repeat (first | exact (Kd.R_reads' HO244.out).2.2 | (with_reducible refine Kd.C_alloc ?_ _) | (with_reducible refine Kd.C_drewN ?_ _) | (with_reducible refine Kd.C_drew ?_)))
      (case side2 => exact (Kd.R_reads' HO244.out).2.1)
      (case side3 => repeat (first | exact (Kd.R_reads' HO247.out).2.2 | (with_reducible refine Kd.C_alloc ?_ _) | (with_reducible refine Kd.C_drewN ?_ _) | (with_reducible refine Kd.C_drew ?_)))
      (case side4 => exact (Kd.R_reads' HO247.out).2.1)
      (case side5 => repeat (first | exact (Kd.R_reads' HO250.out).2.2 | (with_reducible refine Kd.C_alloc ?_ _) | (with_reducible refine Kd.C_drewN ?_ _) | (with_reducible refine Kd.C_drew ?_)))
      (case side6 => exact (Kd.R_reads' HO250.out).2.1)
      (case side7 => repeat (first | exact (Kd.R_reads' HO253.out).2.2 | (with_reducible refine Kd.C_alloc ?_ _) | (with_reducible refine Kd.C_drewN ?_ _) | (with_reducible refine Kd.C_drew ?_)))
      (case side8 => exact (Kd.R_reads' HO253.out).2.1)
      (case side9 => repeat (first | exact (Kd.R_reads' HO256.out).2.2 | (with_reducible refine Kd.C_alloc ?_ _) | (with_reducible refine Kd.C_drewN ?_ _) | (with_reducible refine Kd.C_drew ?_)))
      (case side10 => exact (Kd.R_reads' HO256.out).2.1)
      (case side11 => repeat (first | exact (Kd.R_reads' HO259.out).2.2 | (with_reducible refine Kd.C_alloc ?_ _) | (with_reducible refine Kd.C_drewN ?_ _) | (with_reducible refine Kd.C_drew ?_)))
      (case side12 => exact (Kd.R_reads' HO259.out).2.1)
      (case side13 => repeat (first | exact (Kd.R_reads' HO262.out).2.2 | (with_reducible refine Kd.C_alloc ?_ _) | (with_reducible refine Kd.C_drewN ?_ _) | (with_reducible refine Kd.C_drew ?_)))
      (case side14 => exact (Kd.R_reads' HO262.out).2.1)
      (case side15 => repeat (first | exact (Kd.R_reads' HO265.out).2.2 | (with_reducible refine Kd.C_alloc ?_ _) | (with_reducible refine Kd.C_drewN ?_ _) | (with_reducible refine Kd.C_drew ?_)))
      (case side16 => exact (Kd.R_reads' HO265.out).2.1)
      rintro e w50 ⟨rfl, hb⟩
      refine ⟨_, rfl, ?_⟩
      have n0_ := Aside0.mk (Kd.R_below z11_10 hb)
      have n1_ := Aside0.mk (Kd.R_below z11_9 hb)
      have n2_ := Aside0.mk (Kd.R_below z11_8 hb)
      have n3_ := Aside0.mk (Kd.R_below z11_7 hb)
      have n4_ := Aside0.mk (Kd.R_below z11_15 hb)
      have n5_ := Aside0.mk (Kd.R_below z11_14 hb)
      have n6_ := Aside0.mk (Kd.R_below z11_13 hb)
      have n7_ := Aside0.mk (Kd.R_below z11_12 hb)
      have n8_ := Aside0.mk (blk_below (g := gb238) (o := .cells #[.slice A0_0 l0_0.length c0_0, .slice A0_1 l0_1.length c0_1, .slice A0_2 l0_2.length c0_2, .slice A0_3 l0_3.length c0_3] 27 (0, 0)) z11_2 hb)
      have n9_ := Aside0.mk (blk_below (g := gb239) (o := .cells #[.slice A1_0 l1_0.length c1_0, .slice A1_1 l1_1.length c1_1, .slice A1_2 l1_2.length c1_2, .slice A1_3 l1_3.length c1_3] 27 (0, 0)) z11_4 hb)
      have n10_ := Aside0.mk (below_step z11_0 hb)
      clear HO244
      clear HO247
      clear HO250
      clear HO253
      clear HO256
      clear HO259
      clear HO262
      clear HO265
      clear BK238
      clear BK239
      clear HB
      have HO244 := n0_
      have HO247 := n1_
      have HO250 := n2_
      have HO253 := n3_
      have HO256 := n4_
      have HO259 := n5_
      have HO262 := n6_
      have HO265 := n7_
      have BK238 := n8_
      have BK239 := n9_
      have HB := n10_
      clear n0_ n1_ n2_ n3_ n4_ n5_ n6_ n7_ n8_ n9_ n10_
      (try clear hb)
      (try clear hb2)
      (try clear hk)
      (try clear hi)
      refine hK.out _ _ ⟨(blk_cell BK238.out 0).trans rfl, (blk_cell BK238.out 1).trans rfl, (blk_cell BK238.out 2).trans rfl, (blk_cell BK238.out 3).trans rfl, (blk_cell BK239.out 0).trans rfl, (blk_cell BK239.out 1).trans rfl, (blk_cell BK239.out 2).trans rfl, (blk_cell BK239.out 3).trans rfl⟩ (fun hHeld => ?_)
      clear hK K
      refine norm_ (a' := ?_) ?_ ?_
      rotate_left
      ·
       show Act.put _ (some 24) _ = _
       simp only [Act.put, List.setIfInBounds_toArray, List.set_cons_zero, List.set_cons_succ, i64_w, i32_w]
       rfl
      refine pure_ (i := 5) (N := some 6) (v := ?_) (a' := ?_) #[true, true, true, true, true, true] rfl rfl z11_47 (fun _ _ _ h => h) (Or.inl ⟨by rfl, ?_⟩) ?_ ?_
      rotate_left
      ·
       exact (by intro w'; go_simp; with_reducible rfl)
      rotate_left
      ·
       exact z11_16
      refine done_ z11_47 ?_
      have hcz51_0 : w50.cell? ⟨gb238, 0, none⟩ = some (.slice A0_0 l0_0.length c0_0) := (blk_cell BK238.out 0).trans rfl
      have hcz51_1 : w50.cell? ⟨gb238, 1, none⟩ = some (.slice A0_1 l0_1.length c0_1) := (blk_cell BK238.out 1).trans rfl
      have hcz51_2 : w50.cell? ⟨gb238, 2, none⟩ = some (.slice A0_2 l0_2.length c0_2) := (blk_cell BK238.out 2).trans rfl
      have hcz51_3 : w50.cell? ⟨gb238, 3, none⟩ = some (.slice A0_3 l0_3.length c0_3) := (blk_cell BK238.out 3).trans rfl
      have hfz51_0 := blk_frozen BK238.out 0
      have hfz51_1 := blk_frozen BK238.out 1
      have hfz51_2 := blk_frozen BK238.out 2
      have hfz51_3 := blk_frozen BK238.out 3
      try go_wp2_with (first | ((with_reducible refine gate_callee (f := 11) rfl ?_); refine goesL_ (some 26) rfl rfl Try.func11 z11_47 rfl #[.agg #[.slice A0_0 l0_0.length c0_0, .slice A0_1 l0_1.length c0_1, .slice A0_2 l0_2.length c0_2, .slice A0_3 l0_3.length c0_3]] rfl z11_6 ?_; (with_reducible refine (laws_toState.calls k _ _ l0_0 _ _ l0_1 _ _ l0_2 _ _ l0_3 t267 t270 t273 t276 _ ?side1 ?side2 ?side3 ?side4 ?side5 ?side6 ?side7 ?side8 A22.out).mono ?_); (case side1 => repeat (first | exact (Kd.C_below HR0_0.out HB.out) | (with_reducible refine Kd.C_alloc ?_ _) | (with_reducible refine Kd.C_drewN ?_ _) | (with_reducible refine Kd.C_drew ?_))); (case side2 => exact HC0_0.out); (case side3 => repeat (first | exact (Kd.C_below HR0_1.out HB.out) | (with_reducible refine Kd.C_alloc ?_ _) | (with_reducible refine Kd.C_drewN ?_ _) | (with_reducible refine Kd.C_drew ?_))); (case side4 => exact HC0_1.out); (case side5 => repeat (first | exact (Kd.C_below HR0_2.out HB.out) | (with_reducible refine Kd.C_alloc ?_ _) | (with_reducible refine Kd.C_drewN ?_ _) | (with_reducible refine Kd.C_drew ?_))); (case side6 => exact HC0_2.out); (case side7 => repeat (first | exact (Kd.C_below HR0_3.out HB.out) | (with_reducible refine Kd.C_alloc ?_ _) | (with_reducible refine Kd.C_drewN ?_ _) | (with_reducible refine Kd.C_drew ?_))); (case side8 => exact HC0_3.out); rintro e w52 ⟨v268, v271, v274, v277, rfl, ho0, ho1, ho2, ho3, hb⟩; refine ⟨_, rfl, ?_⟩; have n0_ := Aside0.mk (Kd.R_elder' z11_10 (Kd.R_base ho0) hb); have n1_ := Aside0.mk (Kd.R_elder' z11_9 (Kd.R_base ho1) hb); have n2_ := Aside0.mk (Kd.R_elder' z11_8 (Kd.R_base ho2) hb); have n3_ := Aside0.mk (Kd.R_elder' z11_7 (Kd.R_base ho3) hb); have n4_ := Aside0.mk (Kd.R_elder' z11_15 (Kd.R_base ho0) hb); have n5_ := Aside0.mk (Kd.R_elder' z11_14 (Kd.R_base ho1) hb); have n6_ := Aside0.mk (Kd.R_elder' z11_13 (Kd.R_base ho2) hb); have n7_ := Aside0.mk (Kd.R_elder' z11_12 (Kd.R_base ho3) hb); have n8_ := Aside0.mk (Kd.R_lower (Kd.R_new' (Kd.R_new' ho0 (Kd.R_lt z11_10)) (Kd.R_lt z11_15)) (below_size z11_0)); have n9_ := Aside0.mk (Kd.R_lower (Kd.R_new' (Kd.R_new' ho1 (Kd.R_lt z11_9)) (Kd.R_lt z11_14)) (below_size z11_0)); have n10_ := Aside0.mk (Kd.R_lower (Kd.R_new' (Kd.R_new' ho2 (Kd.R_lt z11_8)) (Kd.R_lt z11_13)) (below_size z11_0)); have n11_ := Aside0.mk (Kd.R_lower (Kd.R_new' (Kd.R_new' ho3 (Kd.R_lt z11_7)) (Kd.R_lt z11_12)) (below_size z11_0)); have n12_ := Aside0.mk (blk_below (g := gb238) (o := .cells #[.slice A0_0 l0_0.length c0_0, .slice A0_1 l0_1.length c0_1, .slice A0_2 l0_2.length c0_2, .slice A0_3 l0_3.length c0_3] 27 (0, 0)) z11_2 hb); have n13_ := Aside0.mk (blk_below (g := gb239) (o := .cells #[.slice A1_0 l1_0.length c1_0, .slice A1_1 l1_1.length c1_1, .slice A1_2 l1_2.length c1_2, .slice A1_3 l1_3.length c1_3] 27 (0, 0)) z11_4 hb); have n14_ := Aside0.mk (below_step z11_0 hb); clear HO244; clear HO247; clear HO250; clear HO253; clear HO256; clear HO259; clear HO262; clear HO265; clear BK238; clear BK239; clear HB; have HO244 := n0_; have HO247 := n1_; have HO250 := n2_; have HO253 := n3_; have HO256 := n4_; have HO259 := n5_; have HO262 := n6_; have HO265 := n7_; have HO269 := n8_; have HO272 := n9_; have HO275 := n10_; have HO278 := n11_; have BK238 := n12_; have BK239 := n13_; have HB := n14_; clear n0_ n1_ n2_ n3_ n4_ n5_ n6_ n7_ n8_ n9_ n10_ n11_ n12_ n13_ n14_; (try clear ho0); (try clear ho1); (try clear ho2); (try clear ho3)) | ((with_reducible refine gate_dst (N := 7) rfl ?_); refine box_event ?hg (N := 7) ?hd (cs := #[.slice none 0 0, .slice none 0 0, .slice none 0 0, .slice none 0 0]) (t := 36) ?hr ?_; (case hd => rfl); (case hg => rfl); (case hr => first | (go_simp; done) | (go_simp; rfl)); intro gb279 hg w53 hbox hb; have n0_ := Aside0.mk (Kd.R_below z11_10 hb); have n1_ := Aside0.mk (Kd.R_below z11_9 hb); have n2_ := Aside0.mk (Kd.R_below z11_8 hb); have n3_ := Aside0.mk (Kd.R_below z11_7 hb); have n4_ := Aside0.mk (Kd.R_below z11_15 hb); have n5_ := Aside0.mk (Kd.R_below z11_14 hb); have n6_ := Aside0.mk (Kd.R_below z11_13 hb); have n7_ := Aside0.mk (Kd.R_below z11_12 hb); have n8_ := Aside0.mk (Kd.R_below z11_20 hb); have n9_ := Aside0.mk (Kd.R_below z11_19 hb); have n10_ := Aside0.mk (Kd.R_below z11_18 hb); have n11_ := Aside0.mk (Kd.R_below z11_17 hb); have n12_ := Aside0.mk (blk_below (g := gb238) (o := .cells #[.slice A0_0 l0_0.length c0_0, .slice A0_1 l0_1.length c0_1, .slice A0_2 l0_2.length c0_2, .slice A0_3 l0_3.length c0_3] 27 (0, 0)) z11_2 hb); have n13_ := Aside0.mk (blk_below (g := gb239) (o := .cells #[.slice A1_0 l1_0.length c1_0, .slice A1_1 l1_1.length c1_1, .slice A1_2 l1_2.length c1_2, .slice A1_3 l1_3.length c1_3] 27 (0, 0)) z11_4 hb); have n14_ := Aside0.mk (below_step z11_0 hb); have n15_ := Aside0.mk (hbox); have n16_ := Aside0.mk ((by rw [hg]; exact (below_size z11_0) : w.heap.size ≤ gb279)); have n17_ := Aside0.mk ((by rw [hg]; exact (below_size z11_0) : w.heap.size ≤ gb279)); have n18_ := Aside0.mk ((by rw [hg]; exact Nat.ne_of_lt (blk_lt (g := gb238) (o := .cells #[.slice A0_0 l0_0.length c0_0, .slice A0_1 l0_1.length c0_1, .slice A0_2 l0_2.length c0_2, .slice A0_3 l0_3.length c0_3] 27 (0, 0)) z11_2) : gb238 ≠ gb279)); have n19_ := Aside0.mk ((by rw [hg]; exact Nat.ne_of_gt (blk_lt (g := gb238) (o := .cells #[.slice A0_0 l0_0.length c0_0, .slice A0_1 l0_1.length c0_1, .slice A0_2 l0_2.length c0_2, .slice A0_3 l0_3.length c0_3] 27 (0, 0)) z11_2) : gb279 ≠ gb238)); have n20_ := Aside0.mk ((by rw [hg]; exact Nat.ne_of_lt (blk_lt (g := gb239) (o := .cells #[.slice A1_0 l1_0.length c1_0, .slice A1_1 l1_1.length c1_1, .slice A1_2 l1_2.length c1_2, .slice A1_3 l1_3.length c1_3] 27 (0, 0)) z11_4) : gb239 ≠ gb279)); have n21_ := Aside0.mk ((by rw [hg]; exact Nat.ne_of_gt (blk_lt (g := gb239) (o := .cells #[.slice A1_0 l1_0.length c1_0, .slice A1_1 l1_1.length c1_1, .slice A1_2 l1_2.length c1_2, .slice A1_3 l1_3.length c1_3] 27 (0, 0)) z11_4) : gb279 ≠ gb239)); clear HO244; clear HO247; clear HO250; clear HO253; clear HO256; clear HO259; clear HO262; clear HO265; clear HO269; clear HO272; clear HO275; clear HO278; clear BK238; clear BK239; clear HB; have HO244 := n0_; have HO247 := n1_; have HO250 := n2_; have HO253 := n3_; have HO256 := n4_; have HO259 := n5_; have HO262 := n6_; have HO265 := n7_; have HO269 := n8_; have HO272 := n9_; have HO275 := n10_; have HO278 := n11_; have BK238 := n12_; have BK239 := n13_; have HB := n14_; have BK279 := n15_; have GW279 := n16_; have GE279 := n17_; have NB238_279 := n18_; have NB279_238 := n19_; have NB239_279 := n20_; have NB279_239 := n21_; clear n0_ n1_ n2_ n3_ n4_ n5_ n6_ n7_ n8_ n9_ n10_ n11_ n12_ n13_ n14_ n15_ n16_ n17_ n18_ n19_ n20_ n21_; clear hb hbox hg; obtain ⟨Ao54, co54, eo54⟩ := Kd.R_slice HO269.out; subst eo54; have hnb55 := NB279_238.out; have hnc55 := NB238_279.out; have hnb56 := NB279_239.out; have hnc56 := NB239_279.out; have hcz57_0 : w53.cell? ⟨gb279, 0, none⟩ = some (.slice none 0 0) := (blk_cell BK279.out 0).trans rfl; have hcz57_1 : w53.cell? ⟨gb279, 1, none⟩ = some (.slice none 0 0) := (blk_cell BK279.out 1).trans rfl; have hcz57_2 : w53.cell? ⟨gb279, 2, none⟩ = some (.slice none 0 0) := (blk_cell BK279.out 2).trans rfl; have hcz57_3 : w53.cell? ⟨gb279, 3, none⟩ = some (.slice none 0 0) := (blk_cell BK279.out 3).trans rfl; have hfz57_0 := blk_frozen BK279.out 0; have hfz57_1 := blk_frozen BK279.out 1; have hfz57_2 := blk_frozen BK279.out 2; have hfz57_3 := blk_frozen BK279.out 3; obtain ⟨Ao58, co58, eo58⟩ := Kd.R_slice HO272.out; subst eo58; obtain ⟨Ao59, co59, eo59⟩ := Kd.R_slice HO275.out; subst eo59; obtain ⟨Ao60, co60, eo60⟩ := Kd.R_slice HO278.out; subst eo60; have hcz61_0 : w53.cell? ⟨gb239, 0, none⟩ = some (.slice A1_0 l1_0.length c1_0) := (blk_cell BK239.out 0).trans rfl; have hcz61_1 : w53.cell? ⟨gb239, 1, none⟩ = some (.slice A1_1 l1_1.length c1_1) := (blk_cell BK239.out 1).trans rfl; have hcz61_2 : w53.cell? ⟨gb239, 2, none⟩ = some (.slice A1_2 l1_2.length c1_2) := (blk_cell BK239.out 2).trans rfl; have hcz61_3 : w53.cell? ⟨gb239, 3, none⟩ = some (.slice A1_3 l1_3.length c1_3) := (blk_cell BK239.out 3).trans rfl; have hfz61_0 := blk_frozen BK239.out 0; have hfz61_1 := blk_frozen BK239.out 1; have hfz61_2 := blk_frozen BK239.out 2; have hfz61_3 := blk_frozen BK239.out 3) | ((with_reducible refine gate_callee (f := 11) rfl ?_); refine goesL_ (some 28) rfl rfl Try.func11 z11_47 rfl #[.agg #[.slice A1_0 l1_0.length c1_0, .slice A1_1 l1_1.length c1_1, .slice A1_2 l1_2.length c1_2, .slice A1_3 l1_3.length c1_3]] rfl z11_6 ?_; (with_reducible refine (laws_toState.calls k _ _ l1_0 _ _ l1_1 _ _ l1_2 _ _ l1_3 t280 t283 t286 t289 _ ?side1 ?side2 ?side3 ?side4 ?side5 ?side6 ?side7 ?side8 A23.out).mono ?_); (case side1 => exact Kd.C_below HR1_0.out z11_3); (case side2 => exact HC1_0.out); (case side3 => exact Kd.C_below HR1_1.out z11_3); (case side4 => exact HC1_1.out); (case side5 => exact Kd.C_below HR1_2.out z11_3); (case side6 => exact HC1_2.out); (case side7 => exact Kd.C_below HR1_3.out z11_3); (case side8 => exact HC1_3.out); rintro e w62 ⟨v281, v284, v287, v290, rfl, ho0, ho1, ho2, ho3, hb⟩; refine ⟨_, rfl, ?_⟩; have n0_ := Aside0.mk (Kd.R_elder' z11_45 (Kd.R_base ho0) hb); have n1_ := Aside0.mk (Kd.R_elder' z11_44 (Kd.R_base ho1) hb); have n2_ := Aside0.mk (Kd.R_elder' z11_43 (Kd.R_base ho2) hb); have n3_ := Aside0.mk (Kd.R_elder' z11_42 (Kd.R_base ho3) hb); have n4_ := Aside0.mk (Kd.R_elder' z11_41 (Kd.R_base ho0) hb); have n5_ := Aside0.mk (Kd.R_elder' z11_40 (Kd.R_base ho1) hb); have n6_ := Aside0.mk (Kd.R_elder' z11_39 (Kd.R_base ho2) hb); have n7_ := Aside0.mk (Kd.R_elder' z11_38 (Kd.R_base ho3) hb); have n8_ := Aside0.mk (Kd.R_elder' z11_37 (Kd.R_base ho0) hb); have n9_ := Aside0.mk (Kd.R_elder' z11_36 (Kd.R_base ho1) hb); have n10_ := Aside0.mk (Kd.R_elder' z11_35 (Kd.R_base ho2) hb); have n11_ := Aside0.mk (Kd.R_elder' z11_34 (Kd.R_base ho3) hb); have n12_ := Aside0.mk (Kd.R_lower (Kd.R_new' (Kd.R_new' (Kd.R_new' ho0 (Kd.R_lt z11_45)) (Kd.R_lt z11_41)) (Kd.R_lt z11_37)) (below_size z11_3)); have n13_ := Aside0.mk (Kd.R_lower (Kd.R_new' (Kd.R_new' (Kd.R_new' ho1 (Kd.R_lt z11_44)) (Kd.R_lt z11_40)) (Kd.R_lt z11_36)) (below_size z11_3)); have n14_ := Aside0.mk (Kd.R_lower (Kd.R_new' (Kd.R_new' (Kd.R_new' ho2 (Kd.R_lt z11_43)) (Kd.R_lt z11_39)) (Kd.R_lt z11_35)) (below_size z11_3)); have n15_ := Aside0.mk (Kd.R_lower (Kd.R_new' (Kd.R_new' (Kd.R_new' ho3 (Kd.R_lt z11_42)) (Kd.R_lt z11_38)) (Kd.R_lt z11_34)) (below_size z11_3)); have n16_ := Aside0.mk (blk_below (g := gb238) (o := .cells #[.slice A0_0 l0_0.length c0_0, .slice A0_1 l0_1.length c0_1, .slice A0_2 l0_2.length c0_2, .slice A0_3 l0_3.length c0_3] 27 (0, 0)) (by (with_reducible repeat (first | refine blk_drewN ?_ _ | refine blk_drew ?_ | refine blk_alloc ?_ _)); refine blk_far ?_ NB238_279.out _; (with_reducible repeat (first | refine blk_drewN ?_ _ | refine blk_drew ?_ | refine blk_alloc ?_ _)); refine blk_far ?_ NB238_279.out _; (with_reducible repeat (first | refine blk_drewN ?_ _ | refine blk_drew ?_ | refine blk_alloc ?_ _)); refine blk_far ?_ NB238_279.out _; (with_reducible repeat (first | refine blk_drewN ?_ _ | refine blk_drew ?_ | refine blk_alloc ?_ _)); refine blk_far ?_ NB238_279.out _; (with_reducible repeat (first | refine blk_drewN ?_ _ | refine blk_drew ?_ | refine blk_alloc ?_ _)); exact BK238.out) hb); have n17_ := Aside0.mk (blk_below (g := gb239) (o := .cells #[.slice A1_0 l1_0.length c1_0, .slice A1_1 l1_1.length c1_1, .slice A1_2 l1_2.length c1_2, .slice A1_3 l1_3.length c1_3] 27 (0, 0)) (by (with_reducible repeat (first | refine blk_drewN ?_ _ | refine blk_drew ?_ | refine blk_alloc ?_ _)); refine blk_far ?_ NB239_279.out _; (with_reducible repeat (first | refine blk_drewN ?_ _ | refine blk_drew ?_ | refine blk_alloc ?_ _)); refine blk_far ?_ NB239_279.out _; (with_reducible repeat (first | refine blk_drewN ?_ _ | refine blk_drew ?_ | refine blk_alloc ?_ _)); refine blk_far ?_ NB239_279.out _; (with_reducible repeat (first | refine blk_drewN ?_ _ | refine blk_drew ?_ | refine blk_alloc ?_ _)); refine blk_far ?_ NB239_279.out _; (with_reducible repeat (first | refine blk_drewN ?_ _ | refine blk_drew ?_ | refine blk_alloc ?_ _)); exact BK239.out) hb); have n18_ := Aside0.mk (blk_below (g := gb279) (o := .cells #[.slice Ao54 t267.length co54, .slice Ao58 t270.length co58, .slice Ao59 t273.length co59, .slice Ao60 t276.length co60] 36 (0, 0)) (by (with_reducible repeat (first | refine blk_drewN ?_ _ | refine blk_drew ?_ | refine blk_alloc ?_ _)); refine blk_put (cs := #[.slice Ao54 t267.length co54, .slice Ao58 t270.length co58, .slice Ao59 t273.length co59, .slice none 0 0]) ?_ 3 _ rfl; (with_reducible repeat (first | refine blk_drewN ?_ _ | refine blk_drew ?_ | refine blk_alloc ?_ _)); refine blk_put (cs := #[.slice Ao54 t267.length co54, .slice Ao58 t270.length co58, .slice none 0 0, .slice none 0 0]) ?_ 2 _ rfl; (with_reducible repeat (first | refine blk_drewN ?_ _ | refine blk_drew ?_ | refine blk_alloc ?_ _)); refine blk_put (cs := #[.slice Ao54 t267.length co54, .slice none 0 0, .slice none 0 0, .slice none 0 0]) ?_ 1 _ rfl; (with_reducible repeat (first | refine blk_drewN ?_ _ | refine blk_drew ?_ | refine blk_alloc ?_ _)); refine blk_put (cs := #[.slice none 0 0, .slice none 0 0, .slice none 0 0, .slice none 0 0]) ?_ 0 _ rfl; (with_reducible repeat (first | refine blk_drewN ?_ _ | refine blk_drew ?_ | refine blk_alloc ?_ _)); exact BK279.out) hb); have n19_ := Aside0.mk (below_step z11_3 hb); clear HO244; clear HO247; clear HO250; clear HO253; clear HO256; clear HO259; clear HO262; clear HO265; clear HO269; clear HO272; clear HO275; clear HO278; clear BK238; clear BK239; clear BK279; clear HB; have HO244 := n0_; have HO247 := n1_; have HO250 := n2_; have HO253 := n3_; have HO256 := n4_; have HO259 := n5_; have HO262 := n6_; have HO265 := n7_; have HO269 := n8_; have HO272 := n9_; have HO275 := n10_; have HO278 := n11_; have HO282 := n12_; have HO285 := n13_; have HO288 := n14_; have HO291 := n15_; have BK238 := n16_; have BK239 := n17_; have BK279 := n18_; have HB := n19_; clear n0_ n1_ n2_ n3_ n4_ n5_ n6_ n7_ n8_ n9_ n10_ n11_ n12_ n13_ n14_ n15_ n16_ n17_ n18_ n19_; (try clear ho0); (try clear ho1); (try clear ho2); (try clear ho3)) | ((with_reducible refine gate_dst (N := 8) rfl ?_); refine box_event ?hg (N := 8) ?hd (cs := #[.slice none 0 0, .slice none 0 0, .slice none 0 0, .slice none 0 0]) (t := 36) ?hr ?_; (case hd => rfl); (case hg => rfl); (case hr => first | (go_simp; done) | (go_simp; rfl)); intro gb292 hg w63 hbox hb; have n0_ := Aside0.mk (Kd.R_below z11_10 hb); have n1_ := Aside0.mk (Kd.R_below z11_9 hb); have n2_ := Aside0.mk (Kd.R_below z11_8 hb); have n3_ := Aside0.mk (Kd.R_below z11_7 hb); have n4_ := Aside0.mk (Kd.R_below z11_15 hb); have n5_ := Aside0.mk (Kd.R_below z11_14 hb); have n6_ := Aside0.mk (Kd.R_below z11_13 hb); have n7_ := Aside0.mk (Kd.R_below z11_12 hb); have n8_ := Aside0.mk (Kd.R_below z11_20 hb); have n9_ := Aside0.mk (Kd.R_below z11_19 hb); have n10_ := Aside0.mk (Kd.R_below z11_18 hb); have n11_ := Aside0.mk (Kd.R_below z11_17 hb); have n12_ := Aside0.mk (Kd.R_below z11_25 hb); have n13_ := Aside0.mk (Kd.R_below z11_24 hb); have n14_ := Aside0.mk (Kd.R_below z11_23 hb); have n15_ := Aside0.mk (Kd.R_below z11_22 hb); have n16_ := Aside0.mk (blk_below (g := gb238) (o := .cells #[.slice A0_0 l0_0.length c0_0, .slice A0_1 l0_1.length c0_1, .slice A0_2 l0_2.length c0_2, .slice A0_3 l0_3.length c0_3] 27 (0, 0)) z11_2 hb); have n17_ := Aside0.mk (blk_below (g := gb239) (o := .cells #[.slice A1_0 l1_0.length c1_0, .slice A1_1 l1_1.length c1_1, .slice A1_2 l1_2.length c1_2, .slice A1_3 l1_3.length c1_3] 27 (0, 0)) z11_4 hb); have n18_ := Aside0.mk (blk_below (g := gb279) (o := .cells #[.slice Ao54 t267.length co54, .slice Ao58 t270.length co58, .slice Ao59 t273.length co59, .slice Ao60 t276.length co60] 36 (0, 0)) z11_21 hb); have n19_ := Aside0.mk (below_step z11_3 hb); have n20_ := Aside0.mk (hbox); have n21_ := Aside0.mk ((by rw [hg]; exact (below_size z11_3) : w.heap.size ≤ gb292)); have n22_ := Aside0.mk ((by rw [hg]; exact (below_size z11_3) : w.heap.size ≤ gb292)); have n23_ := Aside0.mk ((by rw [hg]; exact Nat.ne_of_lt (blk_lt (g := gb238) (o := .cells #[.slice A0_0 l0_0.length c0_0, .slice A0_1 l0_1.length c0_1, .slice A0_2 l0_2.length c0_2, .slice A0_3 l0_3.length c0_3] 27 (0, 0)) z11_2) : gb238 ≠ gb292)); have n24_ := Aside0.mk ((by rw [hg]; exact Nat.ne_of_gt (blk_lt (g := gb238) (o := .cells #[.slice A0_0 l0_0.length c0_0, .slice A0_1 l0_1.length c0_1, .slice A0_2 l0_2.length c0_2, .slice A0_3 l0_3.length c0_3] 27 (0, 0)) z11_2) : gb292 ≠ gb238)); have n25_ := Aside0.mk ((by rw [hg]; exact Nat.ne_of_lt (blk_lt (g := gb239) (o := .cells #[.slice A1_0 l1_0.length c1_0, .slice A1_1 l1_1.length c1_1, .slice A1_2 l1_2.length c1_2, .slice A1_3 l1_3.length c1_3] 27 (0, 0)) z11_4) : gb239 ≠ gb292)); have n26_ := Aside0.mk ((by rw [hg]; exact Nat.ne_of_gt (blk_lt (g := gb239) (o := .cells #[.slice A1_0 l1_0.length c1_0, .slice A1_1 l1_1.length c1_1, .slice A1_2 l1_2.length c1_2, .slice A1_3 l1_3.length c1_3] 27 (0, 0)) z11_4) : gb292 ≠ gb239)); have n27_ := Aside0.mk ((by rw [hg]; exact Nat.ne_of_lt (blk_lt (g := gb279) (o := .cells #[.slice Ao54 t267.length co54, .slice Ao58 t270.length co58, .slice Ao59 t273.length co59, .slice Ao60 t276.length co60] 36 (0, 0)) z11_21) : gb279 ≠ gb292)); have n28_ := Aside0.mk ((by rw [hg]; exact Nat.ne_of_gt (blk_lt (g := gb279) (o := .cells #[.slice Ao54 t267.length co54, .slice Ao58 t270.length co58, .slice Ao59 t273.length co59, .slice Ao60 t276.length co60] 36 (0, 0)) z11_21) : gb292 ≠ gb279)); clear HO244; clear HO247; clear HO250; clear HO253; clear HO256; clear HO259; clear HO262; clear HO265; clear HO269; clear HO272; clear HO275; clear HO278; clear HO282; clear HO285; clear HO288; clear HO291; clear BK238; clear BK239; clear BK279; clear HB; have HO244 := n0_; have HO247 := n1_; have HO250 := n2_; have HO253 := n3_; have HO256 := n4_; have HO259 := n5_; have HO262 := n6_; have HO265 := n7_; have HO269 := n8_; have HO272 := n9_; have HO275 := n10_; have HO278 := n11_; have HO282 := n12_; have HO285 := n13_; have HO288 := n14_; have HO291 := n15_; have BK238 := n16_; have BK239 := n17_; have BK279 := n18_; have HB := n19_; have BK292 := n20_; have GW292 := n21_; have GE292 := n22_; have NB238_292 := n23_; have NB292_238 := n24_; have NB239_292 := n25_; have NB292_239 := n26_; have NB279_292 := n27_; have NB292_279 := n28_; clear n0_ n1_ n2_ n3_ n4_ n5_ n6_ n7_ n8_ n9_ n10_ n11_ n12_ n13_ n14_ n15_ n16_ n17_ n18_ n19_ n20_ n21_ n22_ n23_ n24_ n25_ n26_ n27_ n28_; clear hb hbox hg; obtain ⟨Ao64, co64, eo64⟩ := Kd.R_slice HO282.out; subst eo64; have hnb65 := NB292_238.out; have hnc65 := NB238_292.out; have hnb66 := NB292_239.out; have hnc66 := NB239_292.out; have hnb67 := NB292_279.out; have hnc67 := NB279_292.out; have hcz68_0 : w63.cell? ⟨gb292, 0, none⟩ = some (.slice none 0 0) := (blk_cell BK292.out 0).trans rfl; have hcz68_1 : w63.cell? ⟨gb292, 1, none⟩ = some (.slice none 0 0) := (blk_cell BK292.out 1).trans rfl; have hcz68_2 : w63.cell? ⟨gb292, 2, none⟩ = some (.slice none 0 0) := (blk_cell BK292.out 2).trans rfl; have hcz68_3 : w63.cell? ⟨gb292, 3, none⟩ = some (.slice none 0 0) := (blk_cell BK292.out 3).trans rfl; have hfz68_0 := blk_frozen BK292.out 0; have hfz68_1 := blk_frozen BK292.out 1; have hfz68_2 := blk_frozen BK292.out 2; have hfz68_3 := blk_frozen BK292.out 3; obtain ⟨Ao69, co69, eo69⟩ := Kd.R_slice HO285.out; subst eo69; obtain ⟨Ao70, co70, eo70⟩ := Kd.R_slice HO288.out; subst eo70; obtain ⟨Ao71, co71, eo71⟩ := Kd.R_slice HO291.out; subst eo71; have hcz72_0 : w63.cell? ⟨gb279, 0, none⟩ = some (.slice Ao54 t267.length co54) := (blk_cell BK279.out 0).trans rfl; have hcz72_1 : w63.cell? ⟨gb279, 1, none⟩ = some (.slice Ao58 t270.length co58) := (blk_cell BK279.out 1).trans rfl; have hcz72_2 : w63.cell? ⟨gb279, 2, none⟩ = some (.slice Ao59 t273.length co59) := (blk_cell BK279.out 2).trans rfl; have hcz72_3 : w63.cell? ⟨gb279, 3, none⟩ = some (.slice Ao60 t276.length co60) := (blk_cell BK279.out 3).trans rfl; have hfz72_0 := blk_frozen BK279.out 0; have hfz72_1 := blk_frozen BK279.out 1; have hfz72_2 := blk_frozen BK279.out 2; have hfz72_3 := blk_frozen BK279.out 3) | ((with_reducible refine gate_callee (f := 16) rfl ?_); refine goesL_ (some 31) rfl rfl Try.func16 z11_47 rfl #[.agg #[.slice Ao54 t267.length co54, .slice Ao58 t270.length co58, .slice Ao59 t273.length co59, .slice Ao60 t276.length co60], .agg #[.slice Ao64 t280.length co64, .slice Ao69 t283.length co69, .slice Ao70 t286.length co70, .slice Ao71 t289.length co71]] rfl z11_6 ?_; (with_reducible refine (impl_SameState.calls k _ _ t267 _ _ t270 _ _ t273 _ _ t276 _ _ t280 _ _ t283 _ _ t286 _ _ t289 t293 _ ?side1 ?side2 ?side3 ?side4 ?side5 ?side6 ?side7 ?side8 ?side9 ?side10 ?side11 ?side12 ?side13 ?side14 ?side15 ?side16 A24.out).mono ?_); (case side1 => refine (Kd.R_reads' (e := 3) (base := w.heap.size) (ok := fun k_ => (((True ∧ some k_ ≠ (.slice Ao42 t242.length co42 : Value).ownBlock) ∧ some k_ ≠ (.slice Ao46 t254.length co46 : Value).ownBlock) ∧ some k_ ≠ (.slice Ao64 t280.length co64 : Value).ownBlock)) (n := t267.length) (c := co54) ?_).2.2; exact z11_33); (case side2 => exact (Kd.R_reads' HO269.out).2.1); (case side3 => refine (Kd.R_reads' (e := 84) (base := w.heap.size) (ok := fun k_ => (((True ∧ some k_ ≠ (.slice Ao43 t245.length co43 : Value).ownBlock) ∧ some k_ ≠ (.slice Ao47 t257.length co47 : Value).ownBlock) ∧ some k_ ≠ (.slice Ao69 t283.length co69 : Value).ownBlock)) (n := t270.length) (c := co58) ?_).2.2; exact z11_32); (case side4 => exact (Kd.R_reads' HO272.out).2.1); (case side5 => refine (Kd.R_reads' (e := 86) (base := w.heap.size) (ok := fun k_ => (((True ∧ some k_ ≠ (.slice Ao44 t248.length co44 : Value).ownBlock) ∧ some k_ ≠ (.slice Ao48 t260.length co48 : Value).ownBlock) ∧ some k_ ≠ (.slice Ao70 t286.length co70 : Value).ownBlock)) (n := t273.length) (c := co59) ?_).2.2; exact z11_31); (case side6 => exact (Kd.R_reads' HO275.out).2.1); (case side7 => refine (Kd.R_reads' (e := 73) (base := w.heap.size) (ok := fun k_ => (((True ∧ some k_ ≠ (.slice Ao45 t251.length co45 : Value).ownBlock) ∧ some k_ ≠ (.slice Ao49 t263.length co49 : Value).ownBlock) ∧ some k_ ≠ (.slice Ao71 t289.length co71 : Value).ownBlock)) (n := t276.length) (c := co60) ?_).2.2; exact z11_30); (case side8 => exact (Kd.R_reads' HO278.out).2.1); (case side9 => refine (Kd.R_reads' (e := 3) (base := w.heap.size) (ok := fun k_ => (((True ∧ some k_ ≠ (.slice Ao42 t242.length co42 : Value).ownBlock) ∧ some k_ ≠ (.slice Ao46 t254.length co46 : Value).ownBlock) ∧ some k_ ≠ (.slice Ao54 t267.length co54 : Value).ownBlock)) (n := t280.length) (c := co64) ?_).2.2; exact z11_29); (case side10 => exact (Kd.R_reads' HO282.out).2.1); (case side11 => refine (Kd.R_reads' (e := 84) (base := w.heap.size) (ok := fun k_ => (((True ∧ some k_ ≠ (.slice Ao43 t245.length co43 : Value).ownBlock) ∧ some k_ ≠ (.slice Ao47 t257.length co47 : Value).ownBlock) ∧ some k_ ≠ (.slice Ao58 t270.length co58 : Value).ownBlock)) (n := t283.length) (c := co69) ?_).2.2; exact z11_28); (case side12 => exact (Kd.R_reads' HO285.out).2.1); (case side13 => refine (Kd.R_reads' (e := 86) (base := w.heap.size) (ok := fun k_ => (((True ∧ some k_ ≠ (.slice Ao44 t248.length co44 : Value).ownBlock) ∧ some k_ ≠ (.slice Ao48 t260.length co48 : Value).ownBlock) ∧ some k_ ≠ (.slice Ao59 t273.length co59 : Value).ownBlock)) (n := t286.length) (c := co70) ?_).2.2; exact z11_27); (case side14 => exact (Kd.R_reads' HO288.out).2.1); (case side15 => refine (Kd.R_reads' (e := 73) (base := w.heap.size) (ok := fun k_ => (((True ∧ some k_ ≠ (.slice Ao45 t251.length co45 : Value).ownBlock) ∧ some k_ ≠ (.slice Ao49 t263.length co49 : Value).ownBlock) ∧ some k_ ≠ (.slice Ao60 t276.length co60 : Value).ownBlock)) (n := t289.length) (c := co71) ?_).2.2; exact z11_26); (case side16 => exact (Kd.R_reads' HO291.out).2.1); rintro e w73 ⟨rfl, hb⟩; refine ⟨_, rfl, ?_⟩; have n0_ := Aside0.mk (Kd.R_below (by (with_reducible repeat (first | apply Kd.R_alloc | apply Kd.R_drewN | apply Kd.R_drew)); exact (Kd.R_mono (Kd.R_far (p := ⟨gb292, 3, none⟩) (Kd.R_far (p := ⟨gb292, 2, none⟩) (Kd.R_far (p := ⟨gb292, 1, none⟩) (Kd.R_far (p := ⟨gb292, 0, none⟩) (Kd.R_types HO244.out BK292.out (by decide)) (fun _ hk => hk.2) (.slice Ao64 t280.length co64)) (fun _ hk => hk.2) (.slice Ao69 t283.length co69)) (fun _ hk => hk.2) (.slice Ao70 t286.length co70)) (fun _ hk => hk.2) (.slice Ao71 t289.length co71)) (fun _ h_ => h_.1))) hb); have n1_ := Aside0.mk (Kd.R_below (by (with_reducible repeat (first | apply Kd.R_alloc | apply Kd.R_drewN | apply Kd.R_drew)); exact (Kd.R_mono (Kd.R_far (p := ⟨gb292, 3, none⟩) (Kd.R_far (p := ⟨gb292, 2, none⟩) (Kd.R_far (p := ⟨gb292, 1, none⟩) (Kd.R_far (p := ⟨gb292, 0, none⟩) (Kd.R_types HO247.out BK292.out (by decide)) (fun _ hk => hk.2) (.slice Ao64 t280.length co64)) (fun _ hk => hk.2) (.slice Ao69 t283.length co69)) (fun _ hk => hk.2) (.slice Ao70 t286.length co70)) (fun _ hk => hk.2) (.slice Ao71 t289.length co71)) (fun _ h_ => h_.1))) hb); have n2_ := Aside0.mk (Kd.R_below (by (with_reducible repeat (first | apply Kd.R_alloc | apply Kd.R_drewN | apply Kd.R_drew)); exact (Kd.R_mono (Kd.R_far (p := ⟨gb292, 3, none⟩) (Kd.R_far (p := ⟨gb292, 2, none⟩) (Kd.R_far (p := ⟨gb292, 1, none⟩) (Kd.R_far (p := ⟨gb292, 0, none⟩) (Kd.R_types HO250.out BK292.out (by decide)) (fun _ hk => hk.2) (.slice Ao64 t280.length co64)) (fun _ hk => hk.2) (.slice Ao69 t283.length co69)) (fun _ hk => hk.2) (.slice Ao70 t286.length co70)) (fun _ hk => hk.2) (.slice Ao71 t289.length co71)) (fun _ h_ => h_.1))) hb); have n3_ := Aside0.mk (Kd.R_below (by (with_reducible repeat (first | apply Kd.R_alloc | apply Kd.R_drewN | apply Kd.R_drew)); exact (Kd.R_mono (Kd.R_far (p := ⟨gb292, 3, none⟩) (Kd.R_far (p := ⟨gb292, 2, none⟩) (Kd.R_far (p := ⟨gb292, 1, none⟩) (Kd.R_far (p := ⟨gb292, 0, none⟩) (Kd.R_types HO253.out BK292.out (by decide)) (fun _ hk => hk.2) (.slice Ao64 t280.length co64)) (fun _ hk => hk.2) (.slice Ao69 t283.length co69)) (fun _ hk => hk.2) (.slice Ao70 t286.length co70)) (fun _ hk => hk.2) (.slice Ao71 t289.length co71)) (fun _ h_ => h_.1))) hb); have n4_ := Aside0.mk (Kd.R_below (by (with_reducible repeat (first | apply Kd.R_alloc | apply Kd.R_drewN | apply Kd.R_drew)); exact (Kd.R_mono (Kd.R_far (p := ⟨gb292, 3, none⟩) (Kd.R_far (p := ⟨gb292, 2, none⟩) (Kd.R_far (p := ⟨gb292, 1, none⟩) (Kd.R_far (p := ⟨gb292, 0, none⟩) (Kd.R_types HO256.out BK292.out (by decide)) (fun _ hk => hk.2) (.slice Ao64 t280.length co64)) (fun _ hk => hk.2) (.slice Ao69 t283.length co69)) (fun _ hk => hk.2) (.slice Ao70 t286.length co70)) (fun _ hk => hk.2) (.slice Ao71 t289.length co71)) (fun _ h_ => h_.1))) hb); have n5_ := Aside0.mk (Kd.R_below (by (with_reducible repeat (first | apply Kd.R_alloc | apply Kd.R_drewN | apply Kd.R_drew)); exact (Kd.R_mono (Kd.R_far (p := ⟨gb292, 3, none⟩) (Kd.R_far (p := ⟨gb292, 2, none⟩) (Kd.R_far (p := ⟨gb292, 1, none⟩) (Kd.R_far (p := ⟨gb292, 0, none⟩) (Kd.R_types HO259.out BK292.out (by decide)) (fun _ hk => hk.2) (.slice Ao64 t280.length co64)) (fun _ hk => hk.2) (.slice Ao69 t283.length co69)) (fun _ hk => hk.2) (.slice Ao70 t286.length co70)) (fun _ hk => hk.2) (.slice Ao71 t289.length co71)) (fun _ h_ => h_.1))) hb); have n6_ := Aside0.mk (Kd.R_below (by (with_reducible repeat (first | apply Kd.R_alloc | apply Kd.R_drewN | apply Kd.R_drew)); exact (Kd.R_mono (Kd.R_far (p := ⟨gb292, 3, none⟩) (Kd.R_far (p := ⟨gb292, 2, none⟩) (Kd.R_far (p := ⟨gb292, 1, none⟩) (Kd.R_far (p := ⟨gb292, 0, none⟩) (Kd.R_types HO262.out BK292.out (by decide)) (fun _ hk => hk.2) (.slice Ao64 t280.length co64)) (fun _ hk => hk.2) (.slice Ao69 t283.length co69)) (fun _ hk => hk.2) (.slice Ao70 t286.length co70)) (fun _ hk => hk.2) (.slice Ao71 t289.length co71)) (fun _ h_ => h_.1))) hb); have n7_ := Aside0.mk (Kd.R_below (by (with_reducible repeat (first | apply Kd.R_alloc | apply Kd.R_drewN | apply Kd.R_drew)); exact (Kd.R_mono (Kd.R_far (p := ⟨gb292, 3, none⟩) (Kd.R_far (p := ⟨gb292, 2, none⟩) (Kd.R_far (p := ⟨gb292, 1, none⟩) (Kd.R_far (p := ⟨gb292, 0, none⟩) (Kd.R_types HO265.out BK292.out (by decide)) (fun _ hk => hk.2) (.slice Ao64 t280.length co64)) (fun _ hk => hk.2) (.slice Ao69 t283.length co69)) (fun _ hk => hk.2) (.slice Ao70 t286.length co70)) (fun _ hk => hk.2) (.slice Ao71 t289.length co71)) (fun _ h_ => h_.1))) hb); have n8_ := Aside0.mk (Kd.R_below z11_33 hb); have n9_ := Aside0.mk (Kd.R_below z11_32 hb); have n10_ := Aside0.mk (Kd.R_below z11_31 hb); have n11_ := Aside0.mk (Kd.R_below z11_30 hb); have n12_ := Aside0.mk (Kd.R_below z11_29 hb); have n13_ := Aside0.mk (Kd.R_below z11_28 hb); have n14_ := Aside0.mk (Kd.R_below z11_27 hb); have n15_ := Aside0.mk (Kd.R_below z11_26 hb); have n16_ := Aside0.mk (blk_below (g := gb238) (o := .cells #[.slice A0_0 l0_0.length c0_0, .slice A0_1 l0_1.length c0_1, .slice A0_2 l0_2.length c0_2, .slice A0_3 l0_3.length c0_3] 27 (0, 0)) (by (with_reducible repeat (first | refine blk_drewN ?_ _ | refine blk_drew ?_ | refine blk_alloc ?_ _)); refine blk_far ?_ NB238_292.out _; (with_reducible repeat (first | refine blk_drewN ?_ _ | refine blk_drew ?_ | refine blk_alloc ?_ _)); refine blk_far ?_ NB238_292.out _; (with_reducible repeat (first | refine blk_drewN ?_ _ | refine blk_drew ?_ | refine blk_alloc ?_ _)); refine blk_far ?_ NB238_292.out _; (with_reducible repeat (first | refine blk_drewN ?_ _ | refine blk_drew ?_ | refine blk_alloc ?_ _)); refine blk_far ?_ NB238_292.out _; (with_reducible repeat (first | refine blk_drewN ?_ _ | refine blk_drew ?_ | refine blk_alloc ?_ _)); exact BK238.out) hb); have n17_ := Aside0.mk (blk_below (g := gb239) (o := .cells #[.slice A1_0 l1_0.length c1_0, .slice A1_1 l1_1.length c1_1, .slice A1_2 l1_2.length c1_2, .slice A1_3 l1_3.length c1_3] 27 (0, 0)) (by (with_reducible repeat (first | refine blk_drewN ?_ _ | refine blk_drew ?_ | refine blk_alloc ?_ _)); refine blk_far ?_ NB239_292.out _; (with_reducible repeat (first | refine blk_drewN ?_ _ | refine blk_drew ?_ | refine blk_alloc ?_ _)); refine blk_far ?_ NB239_292.out _; (with_reducible repeat (first | refine blk_drewN ?_ _ | refine blk_drew ?_ | refine blk_alloc ?_ _)); refine blk_far ?_ NB239_292.out _; (with_reducible repeat (first | refine blk_drewN ?_ _ | refine blk_drew ?_ | refine blk_alloc ?_ _)); refine blk_far ?_ NB239_292.out _; (with_reducible repeat (first | refine blk_drewN ?_ _ | refine blk_drew ?_ | refine blk_alloc ?_ _)); exact BK239.out) hb); have n18_ := Aside0.mk (blk_below (g := gb279) (o := .cells #[.slice Ao54 t267.length co54, .slice Ao58 t270.length co58, .slice Ao59 t273.length co59, .slice Ao60 t276.length co60] 36 (0, 0)) (by (with_reducible repeat (first | refine blk_drewN ?_ _ | refine blk_drew ?_ | refine blk_alloc ?_ _)); refine blk_far ?_ NB279_292.out _; (with_reducible repeat (first | refine blk_drewN ?_ _ | refine blk_drew ?_ | refine blk_alloc ?_ _)); refine blk_far ?_ NB279_292.out _; (with_reducible repeat (first | refine blk_drewN ?_ _ | refine blk_drew ?_ | refine blk_alloc ?_ _)); refine blk_far ?_ NB279_292.out _; (with_reducible repeat (first | refine blk_drewN ?_ _ | refine blk_drew ?_ | refine blk_alloc ?_ _)); refine blk_far ?_ NB279_292.out _; (with_reducible repeat (first | refine blk_drewN ?_ _ | refine blk_drew ?_ | refine blk_alloc ?_ _)); exact BK279.out) hb); have n19_ := Aside0.mk (blk_below (g := gb292) (o := .cells #[.slice Ao64 t280.length co64, .slice Ao69 t283.length co69, .slice Ao70 t286.length co70, .slice Ao71 t289.length co71] 36 (0, 0)) (by (with_reducible repeat (first | refine blk_drewN ?_ _ | refine blk_drew ?_ | refine blk_alloc ?_ _)); refine blk_put (cs := #[.slice Ao64 t280.length co64, .slice Ao69 t283.length co69, .slice Ao70 t286.length co70, .slice none 0 0]) ?_ 3 _ rfl; (with_reducible repeat (first | refine blk_drewN ?_ _ | refine blk_drew ?_ | refine blk_alloc ?_ _)); refine blk_put (cs := #[.slice Ao64 t280.length co64, .slice Ao69 t283.length co69, .slice none 0 0, .slice none 0 0]) ?_ 2 _ rfl; (with_reducible repeat (first | refine blk_drewN ?_ _ | refine blk_drew ?_ | refine blk_alloc ?_ _)); refine blk_put (cs := #[.slice Ao64 t280.length co64, .slice none 0 0, .slice none 0 0, .slice none 0 0]) ?_ 1 _ rfl; (with_reducible repeat (first | refine blk_drewN ?_ _ | refine blk_drew ?_ | refine blk_alloc ?_ _)); refine blk_put (cs := #[.slice none 0 0, .slice none 0 0, .slice none 0 0, .slice none 0 0]) ?_ 0 _ rfl; (with_reducible repeat (first | refine blk_drewN ?_ _ | refine blk_drew ?_ | refine blk_alloc ?_ _)); exact BK292.out) hb); have n20_ := Aside0.mk (below_step z11_1 hb); clear HO244; clear HO247; clear HO250; clear HO253; clear HO256; clear HO259; clear HO262; clear HO265; clear HO269; clear HO272; clear HO275; clear HO278; clear HO282; clear HO285; clear HO288; clear HO291; clear BK238; clear BK239; clear BK279; clear BK292; clear HB; have HO244 := n0_; have HO247 := n1_; have HO250 := n2_; have HO253 := n3_; have HO256 := n4_; have HO259 := n5_; have HO262 := n6_; have HO265 := n7_; have HO269 := n8_; have HO272 := n9_; have HO275 := n10_; have HO278 := n11_; have HO282 := n12_; have HO285 := n13_; have HO288 := n14_; have HO291 := n15_; have BK238 := n16_; have BK239 := n17_; have BK279 := n18_; have BK292 := n19_; have HB := n20_; clear n0_ n1_ n2_ n3_ n4_ n5_ n6_ n7_ n8_ n9_ n10_ n11_ n12_ n13_ n14_ n15_ n16_ n17_ n18_ n19_ n20_))
      have n0_ := Aside0.mk (Kd.R_drew HO244.out)
      have n1_ := Aside0.mk (Kd.R_drew HO247.out)
      have n2_ := Aside0.mk (Kd.R_drew HO250.out)
      have n3_ := Aside0.mk (Kd.R_drew HO253.out)
      have n4_ := Aside0.mk (Kd.R_drew HO256.out)
      have n5_ := Aside0.mk (Kd.R_drew HO259.out)
      have n6_ := Aside0.mk (Kd.R_drew HO262.out)
      have n7_ := Aside0.mk (Kd.R_drew HO265.out)
      have n8_ := Aside0.mk (Kd.R_drew HO269.out)
      have n9_ := Aside0.mk (Kd.R_drew HO272.out)
      have n10_ := Aside0.mk (Kd.R_drew HO275.out)
      have n11_ := Aside0.mk (Kd.R_drew HO278.out)
      have n12_ := Aside0.mk (Kd.R_drew HO282.out)
      have n13_ := Aside0.mk (Kd.R_drew HO285.out)
      have n14_ := Aside0.mk (Kd.R_drew HO288.out)
      have n15_ := Aside0.mk (Kd.R_drew HO291.out)
      have n16_ := Aside0.mk (blk_drew BK238.out)
      have n17_ := Aside0.mk (blk_drew BK239.out)
      have n18_ := Aside0.mk (blk_drew BK279.out)
      have n19_ := Aside0.mk (blk_drew BK292.out)
      have n20_ := Aside0.mk (below_drew1 HB.out)
      clear HO244
      clear HO247
      clear HO250
      clear HO253
      clear HO256
      clear HO259
      clear HO262
      clear HO265
      clear HO269
      clear HO272
      clear HO275
      clear HO278
      clear HO282
      clear HO285
      clear HO288
      clear HO291
      clear BK238
      clear BK239
      clear BK279
      clear BK292
      clear HB
      have HO244 := n0_
      have HO247 := n1_
      have HO250 := n2_
      have HO253 := n3_
      have HO256 := n4_
      have HO259 := n5_
      have HO262 := n6_
      have HO265 := n7_
      have HO269 := n8_
      have HO272 := n9_
      have HO275 := n10_
      have HO278 := n11_
      have HO282 := n12_
      have HO285 := n13_
      have HO288 := n14_
      have HO291 := n15_
      have BK238 := n16_
      have BK239 := n17_
      have BK279 := n18_
      have BK292 := n19_
      have HB := n20_
      clear n0_ n1_ n2_ n3_ n4_ n5_ n6_ n7_ n8_ n9_ n10_ n11_ n12_ n13_ n14_ n15_ n16_ n17_ n18_ n19_ n20_
      refine start_ (n := 5) (S := fun w' => w'.cell? ⟨gb279, 0, none⟩ = some (.slice Ao54 t267.length co54) ∧ w'.cell? ⟨gb279, 1, none⟩ = some (.slice Ao58 t270.length co58) ∧ w'.cell? ⟨gb279, 2, none⟩ = some (.slice Ao59 t273.length co59) ∧ w'.cell? ⟨gb279, 3, none⟩ = some (.slice Ao60 t276.length co60) ∧ w'.cell? ⟨gb238, 0, none⟩ = some (.slice A0_0 l0_0.length c0_0) ∧ w'.cell? ⟨gb238, 1, none⟩ = some (.slice A0_1 l0_1.length c0_1) ∧ w'.cell? ⟨gb238, 2, none⟩ = some (.slice A0_2 l0_2.length c0_2) ∧ w'.cell? ⟨gb238, 3, none⟩ = some (.slice A0_3 l0_3.length c0_3)) (ds := []) #[false, false, false, false, false] z11_47 rfl rfl ⟨(blk_cell BK279.out 0).trans rfl, (blk_cell BK279.out 1).trans rfl, (blk_cell BK279.out 2).trans rfl, (blk_cell BK279.out 3).trans rfl, (blk_cell BK238.out 0).trans rfl, (blk_cell BK238.out 1).trans rfl, (blk_cell BK238.out 2).trans rfl, (blk_cell BK238.out 3).trans rfl⟩ (fun hHeld => ?_)
      generalize w73.drew = w74 at HO244 HO247 HO250 HO253 HO256 HO259 HO262 HO265 HO269 HO272 HO275 HO278 HO282 HO285 HO288 HO291 BK238 BK239 BK279 BK292 HB hHeld ⊢
      refine take_ (i := 0) (N := some 35) (v := ?_) (a' := ?_) #[true, false, false, false, false] rfl rfl z11_47 (fun _ _ _ h => h) (Or.inl ⟨by rfl, ?_⟩) hHeld ?_ ?_
      rotate_left
      ·
       rintro w' ⟨s0, s1, s2, s3, s4, s5, s6, s7⟩
       go_simp
       with_reducible rfl
      rotate_left
      ·
       exact z11_16
      refine take_ (i := 1) (N := some 36) (v := ?_) (a' := ?_) #[true, true, false, false, false] rfl rfl z11_47 (fun _ _ _ h => h) (Or.inl ⟨by rfl, ?_⟩) hHeld ?_ ?_
      rotate_left
      ·
       rintro w' ⟨s0, s1, s2, s3, s4, s5, s6, s7⟩
       go_simp
       with_reducible rfl
      rotate_left
      ·
       exact z11_16
      refine one_ (i := 2) (N := some 37) #[true, true, true, false, false] rfl rfl z11_47 (by decide) (fun K hK => ?_)
      refine goes_ Try.func11 z11_47 rfl #[.agg #[.slice A0_0 l0_0.length c0_0, .slice A0_1 l0_1.length c0_1, .slice A0_2 l0_2.length c0_2, .slice A0_3 l0_3.length c0_3]] (by rfl) rfl rfl z11_6 ?_
      with_reducible refine (laws_toState.calls k _ _ l0_0 _ _ l0_1 _ _ l0_2 _ _ l0_3 t294 t297 t300 t303 _ ?side1 ?side2 ?side3 ?side4 ?side5 ?side6 ?side7 ?side8 A26.out).mono ?_
      (case side1 => repeat (first | exact (Kd.C_below HR0_0.out HB.out) | (with_reducible refine Kd.C_alloc ?_ _) | (with_reducible refine Kd.C_drewN ?_ _) | (with_reducible refine Kd.C_drew ?_)))
      (case side2 => exact HC0_0.out)
      (case side3 => repeat (first | exact (Kd.C_below HR0_1.out HB.out) | (with_reducible refine Kd.C_alloc ?_ _) | (with_reducible refine Kd.C_drewN ?_ _) | (with_reducible refine Kd.C_drew ?_)))
      (case side4 => exact HC0_1.out)
      (case side5 => repeat (first | exact (Kd.C_below HR0_2.out HB.out) | (with_reducible refine Kd.C_alloc ?_ _) | (with_reducible refine Kd.C_drewN ?_ _) | (with_reducible refine Kd.C_drew ?_)))
      (case side6 => exact HC0_2.out)
      (case side7 => repeat (first | exact (Kd.C_below HR0_3.out HB.out) | (with_reducible refine Kd.C_alloc ?_ _) | (with_reducible refine Kd.C_drewN ?_ _) | (with_reducible refine Kd.C_drew ?_)))
      (case side8 => exact HC0_3.out)
      rintro e w75 ⟨v295, v298, v301, v304, rfl, ho0, ho1, ho2, ho3, hb⟩
      refine ⟨_, rfl, ?_⟩
      have n0_ := Aside0.mk (Kd.R_elder' z11_10 (Kd.R_base ho0) hb)
      have n1_ := Aside0.mk (Kd.R_elder' z11_9 (Kd.R_base ho1) hb)
      have n2_ := Aside0.mk (Kd.R_elder' z11_8 (Kd.R_base ho2) hb)
      have n3_ := Aside0.mk (Kd.R_elder' z11_7 (Kd.R_base ho3) hb)
      have n4_ := Aside0.mk (Kd.R_elder' z11_15 (Kd.R_base ho0) hb)
      have n5_ := Aside0.mk (Kd.R_elder' z11_14 (Kd.R_base ho1) hb)
      have n6_ := Aside0.mk (Kd.R_elder' z11_13 (Kd.R_base ho2) hb)
      have n7_ := Aside0.mk (Kd.R_elder' z11_12 (Kd.R_base ho3) hb)
      have n8_ := Aside0.mk (Kd.R_elder' z11_20 (Kd.R_base ho0) hb)
      have n9_ := Aside0.mk (Kd.R_elder' z11_19 (Kd.R_base ho1) hb)
      have n10_ := Aside0.mk (Kd.R_elder' z11_18 (Kd.R_base ho2) hb)
      have n11_ := Aside0.mk (Kd.R_elder' z11_17 (Kd.R_base ho3) hb)
      have n12_ := Aside0.mk (Kd.R_elder' z11_25 (Kd.R_base ho0) hb)
      have n13_ := Aside0.mk (Kd.R_elder' z11_24 (Kd.R_base ho1) hb)
      have n14_ := Aside0.mk (Kd.R_elder' z11_23 (Kd.R_base ho2) hb)
      have n15_ := Aside0.mk (Kd.R_elder' z11_22 (Kd.R_base ho3) hb)
      have n16_ := Aside0.mk (Kd.R_lower (Kd.R_new' (Kd.R_new' (Kd.R_new' (Kd.R_new' ho0 (Kd.R_lt z11_10)) (Kd.R_lt z11_15)) (Kd.R_lt z11_20)) (Kd.R_lt z11_25)) (below_size z11_1))
      have n17_ := Aside0.mk (Kd.R_lower (Kd.R_new' (Kd.R_new' (Kd.R_new' (Kd.R_new' ho1 (Kd.R_lt z11_9)) (Kd.R_lt z11_14)) (Kd.R_lt z11_19)) (Kd.R_lt z11_24)) (below_size z11_1))
      have n18_ := Aside0.mk (Kd.R_lower (Kd.R_new' (Kd.R_new' (Kd.R_new' (Kd.R_new' ho2 (Kd.R_lt z11_8)) (Kd.R_lt z11_13)) (Kd.R_lt z11_18)) (Kd.R_lt z11_23)) (below_size z11_1))
      have n19_ := Aside0.mk (Kd.R_lower (Kd.R_new' (Kd.R_new' (Kd.R_new' (Kd.R_new' ho3 (Kd.R_lt z11_7)) (Kd.R_lt z11_12)) (Kd.R_lt z11_17)) (Kd.R_lt z11_22)) (below_size z11_1))
      have n20_ := Aside0.mk (blk_below (g := gb238) (o := .cells #[.slice A0_0 l0_0.length c0_0, .slice A0_1 l0_1.length c0_1, .slice A0_2 l0_2.length c0_2, .slice A0_3 l0_3.length c0_3] 27 (0, 0)) z11_2 hb)
      have n21_ := Aside0.mk (blk_below (g := gb239) (o := .cells #[.slice A1_0 l1_0.length c1_0, .slice A1_1 l1_1.length c1_1, .slice A1_2 l1_2.length c1_2, .slice A1_3 l1_3.length c1_3] 27 (0, 0)) z11_4 hb)
      have n22_ := Aside0.mk (blk_below (g := gb279) (o := .cells #[.slice Ao54 t267.length co54, .slice Ao58 t270.length co58, .slice Ao59 t273.length co59, .slice Ao60 t276.length co60] 36 (0, 0)) z11_21 hb)
      have n23_ := Aside0.mk (blk_below (g := gb292) (o := .cells #[.slice Ao64 t280.length co64, .slice Ao69 t283.length co69, .slice Ao70 t286.length co70, .slice Ao71 t289.length co71] 36 (0, 0)) z11_46 hb)
      have n24_ := Aside0.mk (below_step z11_1 hb)
      clear HO244
      clear HO247
      clear HO250
      clear HO253
      clear HO256
      clear HO259
      clear HO262
      clear HO265
      clear HO269
      clear HO272
      clear HO275
      clear HO278
      clear HO282
      clear HO285
      clear HO288
      clear HO291
      clear BK238
      clear BK239
      clear BK279
      clear BK292
      clear HB
      have HO244 := n0_
      have HO247 := n1_
      have HO250 := n2_
      have HO253 := n3_
      have HO256 := n4_
      have HO259 := n5_
      have HO262 := n6_
      have HO265 := n7_
      have HO269 := n8_
      have HO272 := n9_
      have HO275 := n10_
      have HO278 := n11_
      have HO282 := n12_
      have HO285 := n13_
      have HO288 := n14_
      have HO291 := n15_
      have HO296 := n16_
      have HO299 := n17_
      have HO302 := n18_
      have HO305 := n19_
      have BK238 := n20_
      have BK239 := n21_
      have BK279 := n22_
      have BK292 := n23_
      have HB := n24_
      clear n0_ n1_ n2_ n3_ n4_ n5_ n6_ n7_ n8_ n9_ n10_ n11_ n12_ n13_ n14_ n15_ n16_ n17_ n18_ n19_ n20_ n21_ n22_ n23_ n24_
      (try clear hb)
      (try clear hb2)
      (try clear hk)
      (try clear hi)
      (try clear ho0)
      (try clear ho1)
      (try clear ho2)
      (try clear ho3)
      obtain ⟨Ao76, co76, eo76⟩ := Kd.R_slice HO296.out
      (first | subst eo76 | (injection eo76 with f1_ f2_ f3_; have f4_ := f1_.symm; have f5_ := f3_.symm; clear f1_ f2_ f3_; subst f4_; subst f5_))
      obtain ⟨Ao77, co77, eo77⟩ := Kd.R_slice HO299.out
      (first | subst eo77 | (injection eo77 with f1_ f2_ f3_; have f4_ := f1_.symm; have f5_ := f3_.symm; clear f1_ f2_ f3_; subst f4_; subst f5_))
      obtain ⟨Ao78, co78, eo78⟩ := Kd.R_slice HO302.out
      (first | subst eo78 | (injection eo78 with f1_ f2_ f3_; have f4_ := f1_.symm; have f5_ := f3_.symm; clear f1_ f2_ f3_; subst f4_; subst f5_))
      obtain ⟨Ao79, co79, eo79⟩ := Kd.R_slice HO305.out
      (first | subst eo79 | (injection eo79 with f1_ f2_ f3_; have f4_ := f1_.symm; have f5_ := f3_.symm; clear f1_ f2_ f3_; subst f4_; subst f5_))
      refine hK.out _ _ ⟨(blk_cell BK279.out 0).trans rfl, (blk_cell BK279.out 1).trans rfl, (blk_cell BK279.out 2).trans rfl, (blk_cell BK279.out 3).trans rfl, (blk_cell BK238.out 0).trans rfl, (blk_cell BK238.out 1).trans rfl, (blk_cell BK238.out 2).trans rfl, (blk_cell BK238.out 3).trans rfl⟩ (fun hHeld => ?_)
      clear hK K
      refine norm_ (a' := ?_) ?_ ?_
      rotate_left
      ·
       show Act.put _ (some 37) _ = _
       simp only [Act.put, List.setIfInBounds_toArray, List.set_cons_zero, List.set_cons_succ, i64_w, i32_w]
       rfl
      refine one_ (i := 3) (N := some 38) #[true, true, true, true, false] rfl rfl z11_47 (by decide) (fun K hK => ?_)
      refine goes_ Try.func14 z11_47 rfl #[.agg #[.slice Ao54 t267.length co54, .slice Ao58 t270.length co58, .slice Ao59 t273.length co59, .slice Ao60 t276.length co60], .agg #[.slice Ao76 t294.length co76, .slice Ao77 t297.length co77, .slice Ao78 t300.length co78, .slice Ao79 t303.length co79]] (by rfl) rfl rfl z11_6 ?_
      with_reducible refine (laws_eqState.calls k _ _ t267 _ _ t270 _ _ t273 _ _ t276 _ _ t294 _ _ t297 _ _ t300 _ _ t303 true _ ?side1 ?side2 ?side3 ?side4 ?side5 ?side6 ?side7 ?side8 ?side9 ?side10 ?side11 ?side12 ?side13 ?side14 ?side15 ?side16 A27.out).mono ?_
      (case side1 => repeat (first | exact (Kd.R_reads' HO269.out).2.2 | (with_reducible refine Kd.C_alloc ?_ _) | (with_reducible refine Kd.C_drewN ?_ _) | (with_reducible refine Kd.C_drew ?_)))
      (case side2 => exact (Kd.R_reads' HO269.out).2.1)
      (case side3 => repeat (first | exact (Kd.R_reads' HO272.out).2.2 | (with_reducible refine Kd.C_alloc ?_ _) | (with_reducible refine Kd.C_drewN ?_ _) | (with_reducible refine Kd.C_drew ?_)))
      (case side4 => exact (Kd.R_reads' HO272.out).2.1)
      (case side5 => repeat (first | exact (Kd.R_reads' HO275.out).2.2 | (with_reducible refine Kd.C_alloc ?_ _) | (with_reducible refine Kd.C_drewN ?_ _) | (with_reducible refine Kd.C_drew ?_)))
      (case side6 => exact (Kd.R_reads' HO275.out).2.1)
      (case side7 => repeat (first | exact (Kd.R_reads' HO278.out).2.2 | (with_reducible refine Kd.C_alloc ?_ _) | (with_reducible refine Kd.C_drewN ?_ _) | (with_reducible refine Kd.C_drew ?_)))
      (case side8 => exact (Kd.R_reads' HO278.out).2.1)
      (case side9 => repeat (first | exact (Kd.R_reads' HO296.out).2.2 | (with_reducible refine Kd.C_alloc ?_ _) | (with_reducible refine Kd.C_drewN ?_ _) | (with_reducible refine Kd.C_drew ?_)))
      (case side10 => exact (Kd.R_reads' HO296.out).2.1)
      (case side11 => repeat (first | exact (Kd.R_reads' HO299.out).2.2 | (with_reducible refine Kd.C_alloc ?_ _) | (with_reducible refine Kd.C_drewN ?_ _) | (with_reducible refine Kd.C_drew ?_)))
      (case side12 => exact (Kd.R_reads' HO299.out).2.1)
      (case side13 => repeat (first | exact (Kd.R_reads' HO302.out).2.2 | (with_reducible refine Kd.C_alloc ?_ _) | (with_reducible refine Kd.C_drewN ?_ _) | (with_reducible refine Kd.C_drew ?_)))
      (case side14 => exact (Kd.R_reads' HO302.out).2.1)
      (case side15 => repeat (first | exact (Kd.R_reads' HO305.out).2.2 | (with_reducible refine Kd.C_alloc ?_ _) | (with_reducible refine Kd.C_drewN ?_ _) | (with_reducible refine Kd.C_drew ?_)))
      (case side16 => exact (Kd.R_reads' HO305.out).2.1)
      rintro e w80 ⟨rfl, hb⟩
      refine ⟨_, rfl, ?_⟩
      have n0_ := Aside0.mk (Kd.R_below z11_10 hb)
      have n1_ := Aside0.mk (Kd.R_below z11_9 hb)
      have n2_ := Aside0.mk (Kd.R_below z11_8 hb)
      have n3_ := Aside0.mk (Kd.R_below z11_7 hb)
      have n4_ := Aside0.mk (Kd.R_below z11_15 hb)
      have n5_ := Aside0.mk (Kd.R_below z11_14 hb)
      have n6_ := Aside0.mk (Kd.R_below z11_13 hb)
      have n7_ := Aside0.mk (Kd.R_below z11_12 hb)
      have n8_ := Aside0.mk (Kd.R_below z11_20 hb)
      have n9_ := Aside0.mk (Kd.R_below z11_19 hb)
      have n10_ := Aside0.mk (Kd.R_below z11_18 hb)
      have n11_ := Aside0.mk (Kd.R_below z11_17 hb)
      have n12_ := Aside0.mk (Kd.R_below z11_25 hb)
      have n13_ := Aside0.mk (Kd.R_below z11_24 hb)
      have n14_ := Aside0.mk (Kd.R_below z11_23 hb)
      have n15_ := Aside0.mk (Kd.R_below z11_22 hb)
      have n16_ := Aside0.mk (Kd.R_below z11_51 hb)
      have n17_ := Aside0.mk (Kd.R_below z11_50 hb)
      have n18_ := Aside0.mk (Kd.R_below z11_49 hb)
      have n19_ := Aside0.mk (Kd.R_below z11_48 hb)
      have n20_ := Aside0.mk (blk_below (g := gb238) (o := .cells #[.slice A0_0 l0_0.length c0_0, .slice A0_1 l0_1.length c0_1, .slice A0_2 l0_2.length c0_2, .slice A0_3 l0_3.length c0_3] 27 (0, 0)) z11_2 hb)
      have n21_ := Aside0.mk (blk_below (g := gb239) (o := .cells #[.slice A1_0 l1_0.length c1_0, .slice A1_1 l1_1.length c1_1, .slice A1_2 l1_2.length c1_2, .slice A1_3 l1_3.length c1_3] 27 (0, 0)) z11_4 hb)
      have n22_ := Aside0.mk (blk_below (g := gb279) (o := .cells #[.slice Ao54 t267.length co54, .slice Ao58 t270.length co58, .slice Ao59 t273.length co59, .slice Ao60 t276.length co60] 36 (0, 0)) z11_21 hb)
      have n23_ := Aside0.mk (blk_below (g := gb292) (o := .cells #[.slice Ao64 t280.length co64, .slice Ao69 t283.length co69, .slice Ao70 t286.length co70, .slice Ao71 t289.length co71] 36 (0, 0)) z11_46 hb)
      have n24_ := Aside0.mk (below_step z11_1 hb)
      clear HO244
      clear HO247
      clear HO250
      clear HO253
      clear HO256
      clear HO259
      clear HO262
      clear HO265
      clear HO269
      clear HO272
      clear HO275
      clear HO278
      clear HO282
      clear HO285
      clear HO288
      clear HO291
      clear HO296
      clear HO299
      clear HO302
      clear HO305
      clear BK238
      clear BK239
      clear BK279
      clear BK292
      clear HB
      have HO244 := n0_
      have HO247 := n1_
      have HO250 := n2_
      have HO253 := n3_
      have HO256 := n4_
      have HO259 := n5_
      have HO262 := n6_
      have HO265 := n7_
      have HO269 := n8_
      have HO272 := n9_
      have HO275 := n10_
      have HO278 := n11_
      have HO282 := n12_
      have HO285 := n13_
      have HO288 := n14_
      have HO291 := n15_
      have HO296 := n16_
      have HO299 := n17_
      have HO302 := n18_
      have HO305 := n19_
      have BK238 := n20_
      have BK239 := n21_
      have BK279 := n22_
      have BK292 := n23_
      have HB := n24_
      clear n0_ n1_ n2_ n3_ n4_ n5_ n6_ n7_ n8_ n9_ n10_ n11_ n12_ n13_ n14_ n15_ n16_ n17_ n18_ n19_ n20_ n21_ n22_ n23_ n24_
      (try clear hb)
      (try clear hb2)
      (try clear hk)
      (try clear hi)
      refine hK.out _ _ ⟨(blk_cell BK279.out 0).trans rfl, (blk_cell BK279.out 1).trans rfl, (blk_cell BK279.out 2).trans rfl, (blk_cell BK279.out 3).trans rfl, (blk_cell BK238.out 0).trans rfl, (blk_cell BK238.out 1).trans rfl, (blk_cell BK238.out 2).trans rfl, (blk_cell BK238.out 3).trans rfl⟩ (fun hHeld => ?_)
      clear hK K
      refine norm_ (a' := ?_) ?_ ?_
      rotate_left
      ·
       show Act.put _ (some 38) _ = _
       simp only [Act.put, List.setIfInBounds_toArray, List.set_cons_zero, List.set_cons_succ, i64_w, i32_w]
       rfl
      refine pure_ (i := 4) (N := some 39) (v := ?_) (a' := ?_) #[true, true, true, true, true] rfl rfl z11_47 (fun _ _ _ h => h) (Or.inl ⟨by rfl, ?_⟩) ?_ ?_
      rotate_left
      ·
       exact (by intro w'; go_simp; with_reducible rfl)
      rotate_left
      ·
       exact z11_16
      refine done_ z11_47 ?_
      try go_wp2
      have n0_ := Aside0.mk (Kd.R_drew HO244.out)
      have n1_ := Aside0.mk (Kd.R_drew HO247.out)
      have n2_ := Aside0.mk (Kd.R_drew HO250.out)
      have n3_ := Aside0.mk (Kd.R_drew HO253.out)
      have n4_ := Aside0.mk (Kd.R_drew HO256.out)
      have n5_ := Aside0.mk (Kd.R_drew HO259.out)
      have n6_ := Aside0.mk (Kd.R_drew HO262.out)
      have n7_ := Aside0.mk (Kd.R_drew HO265.out)
      have n8_ := Aside0.mk (Kd.R_drew HO269.out)
      have n9_ := Aside0.mk (Kd.R_drew HO272.out)
      have n10_ := Aside0.mk (Kd.R_drew HO275.out)
      have n11_ := Aside0.mk (Kd.R_drew HO278.out)
      have n12_ := Aside0.mk (Kd.R_drew HO282.out)
      have n13_ := Aside0.mk (Kd.R_drew HO285.out)
      have n14_ := Aside0.mk (Kd.R_drew HO288.out)
      have n15_ := Aside0.mk (Kd.R_drew HO291.out)
      have n16_ := Aside0.mk (Kd.R_drew HO296.out)
      have n17_ := Aside0.mk (Kd.R_drew HO299.out)
      have n18_ := Aside0.mk (Kd.R_drew HO302.out)
      have n19_ := Aside0.mk (Kd.R_drew HO305.out)
      have n20_ := Aside0.mk (blk_drew BK238.out)
      have n21_ := Aside0.mk (blk_drew BK239.out)
      have n22_ := Aside0.mk (blk_drew BK279.out)
      have n23_ := Aside0.mk (blk_drew BK292.out)
      have n24_ := Aside0.mk (below_drew1 HB.out)
      clear HO244
      clear HO247
      clear HO250
      clear HO253
      clear HO256
      clear HO259
      clear HO262
      clear HO265
      clear HO269
      clear HO272
      clear HO275
      clear HO278
      clear HO282
      clear HO285
      clear HO288
      clear HO291
      clear HO296
      clear HO299
      clear HO302
      clear HO305
      clear BK238
      clear BK239
      clear BK279
      clear BK292
      clear HB
      have HO244 := n0_
      have HO247 := n1_
      have HO250 := n2_
      have HO253 := n3_
      have HO256 := n4_
      have HO259 := n5_
      have HO262 := n6_
      have HO265 := n7_
      have HO269 := n8_
      have HO272 := n9_
      have HO275 := n10_
      have HO278 := n11_
      have HO282 := n12_
      have HO285 := n13_
      have HO288 := n14_
      have HO291 := n15_
      have HO296 := n16_
      have HO299 := n17_
      have HO302 := n18_
      have HO305 := n19_
      have BK238 := n20_
      have BK239 := n21_
      have BK279 := n22_
      have BK292 := n23_
      have HB := n24_
      clear n0_ n1_ n2_ n3_ n4_ n5_ n6_ n7_ n8_ n9_ n10_ n11_ n12_ n13_ n14_ n15_ n16_ n17_ n18_ n19_ n20_ n21_ n22_ n23_ n24_
      refine start_ (n := 5) (S := fun w' => w'.cell? ⟨gb292, 0, none⟩ = some (.slice Ao64 t280.length co64) ∧ w'.cell? ⟨gb292, 1, none⟩ = some (.slice Ao69 t283.length co69) ∧ w'.cell? ⟨gb292, 2, none⟩ = some (.slice Ao70 t286.length co70) ∧ w'.cell? ⟨gb292, 3, none⟩ = some (.slice Ao71 t289.length co71) ∧ w'.cell? ⟨gb239, 0, none⟩ = some (.slice A1_0 l1_0.length c1_0) ∧ w'.cell? ⟨gb239, 1, none⟩ = some (.slice A1_1 l1_1.length c1_1) ∧ w'.cell? ⟨gb239, 2, none⟩ = some (.slice A1_2 l1_2.length c1_2) ∧ w'.cell? ⟨gb239, 3, none⟩ = some (.slice A1_3 l1_3.length c1_3)) (ds := []) #[false, false, false, false, false] z11_47 rfl rfl ⟨(blk_cell BK292.out 0).trans rfl, (blk_cell BK292.out 1).trans rfl, (blk_cell BK292.out 2).trans rfl, (blk_cell BK292.out 3).trans rfl, (blk_cell BK239.out 0).trans rfl, (blk_cell BK239.out 1).trans rfl, (blk_cell BK239.out 2).trans rfl, (blk_cell BK239.out 3).trans rfl⟩ (fun hHeld => ?_)
      generalize w80.drew = w81 at HO244 HO247 HO250 HO253 HO256 HO259 HO262 HO265 HO269 HO272 HO275 HO278 HO282 HO285 HO288 HO291 HO296 HO299 HO302 HO305 BK238 BK239 BK279 BK292 HB hHeld ⊢
      refine take_ (i := 0) (N := some 40) (v := ?_) (a' := ?_) #[true, false, false, false, false] rfl rfl z11_47 (fun _ _ _ h => h) (Or.inl ⟨by rfl, ?_⟩) hHeld ?_ ?_
      rotate_left
      ·
       rintro w' ⟨s0, s1, s2, s3, s4, s5, s6, s7⟩
       go_simp
       with_reducible rfl
      rotate_left
      ·
       exact z11_16
      refine take_ (i := 1) (N := some 41) (v := ?_) (a' := ?_) #[true, true, false, false, false] rfl rfl z11_47 (fun _ _ _ h => h) (Or.inl ⟨by rfl, ?_⟩) hHeld ?_ ?_
      rotate_left
      ·
       rintro w' ⟨s0, s1, s2, s3, s4, s5, s6, s7⟩
       go_simp
       with_reducible rfl
      rotate_left
      ·
       exact z11_16
      refine one_ (i := 2) (N := some 42) #[true, true, true, false, false] rfl rfl z11_47 (by decide) (fun K hK => ?_)
      refine goes_ Try.func11 z11_47 rfl #[.agg #[.slice A1_0 l1_0.length c1_0, .slice A1_1 l1_1.length c1_1, .slice A1_2 l1_2.length c1_2, .slice A1_3 l1_3.length c1_3]] (by rfl) rfl rfl z11_6 ?_
      with_reducible refine (laws_toState.calls k _ _ l1_0 _ _ l1_1 _ _ l1_2 _ _ l1_3 t307 t310 t313 t316 _ ?side1 ?side2 ?side3 ?side4 ?side5 ?side6 ?side7 ?side8 A29.out).mono ?_
      (case side1 => repeat (first | exact (Kd.C_below HR1_0.out HB.out) | (with_reducible refine Kd.C_alloc ?_ _) | (with_reducible refine Kd.C_drewN ?_ _) | (with_reducible refine Kd.C_drew ?_)))
      (case side2 => exact HC1_0.out)
      (case side3 => repeat (first | exact (Kd.C_below HR1_1.out HB.out) | (with_reducible refine Kd.C_alloc ?_ _) | (with_reducible refine Kd.C_drewN ?_ _) | (with_reducible refine Kd.C_drew ?_)))
      (case side4 => exact HC1_1.out)
      (case side5 => repeat (first | exact (Kd.C_below HR1_2.out HB.out) | (with_reducible refine Kd.C_alloc ?_ _) | (with_reducible refine Kd.C_drewN ?_ _) | (with_reducible refine Kd.C_drew ?_)))
      (case side6 => exact HC1_2.out)
      (case side7 => repeat (first | exact (Kd.C_below HR1_3.out HB.out) | (with_reducible refine Kd.C_alloc ?_ _) | (with_reducible refine Kd.C_drewN ?_ _) | (with_reducible refine Kd.C_drew ?_)))
      (case side8 => exact HC1_3.out)
      rintro e w82 ⟨v308, v311, v314, v317, rfl, ho0, ho1, ho2, ho3, hb⟩
      refine ⟨_, rfl, ?_⟩
      have n0_ := Aside0.mk (Kd.R_elder' z11_10 (Kd.R_base ho0) hb)
      have n1_ := Aside0.mk (Kd.R_elder' z11_9 (Kd.R_base ho1) hb)
      have n2_ := Aside0.mk (Kd.R_elder' z11_8 (Kd.R_base ho2) hb)
      have n3_ := Aside0.mk (Kd.R_elder' z11_7 (Kd.R_base ho3) hb)
      have n4_ := Aside0.mk (Kd.R_elder' z11_15 (Kd.R_base ho0) hb)
      have n5_ := Aside0.mk (Kd.R_elder' z11_14 (Kd.R_base ho1) hb)
      have n6_ := Aside0.mk (Kd.R_elder' z11_13 (Kd.R_base ho2) hb)
      have n7_ := Aside0.mk (Kd.R_elder' z11_12 (Kd.R_base ho3) hb)
      have n8_ := Aside0.mk (Kd.R_elder' z11_20 (Kd.R_base ho0) hb)
      have n9_ := Aside0.mk (Kd.R_elder' z11_19 (Kd.R_base ho1) hb)
      have n10_ := Aside0.mk (Kd.R_elder' z11_18 (Kd.R_base ho2) hb)
      have n11_ := Aside0.mk (Kd.R_elder' z11_17 (Kd.R_base ho3) hb)
      have n12_ := Aside0.mk (Kd.R_elder' z11_25 (Kd.R_base ho0) hb)
      have n13_ := Aside0.mk (Kd.R_elder' z11_24 (Kd.R_base ho1) hb)
      have n14_ := Aside0.mk (Kd.R_elder' z11_23 (Kd.R_base ho2) hb)
      have n15_ := Aside0.mk (Kd.R_elder' z11_22 (Kd.R_base ho3) hb)
      have n16_ := Aside0.mk (Kd.R_elder' z11_51 (Kd.R_base ho0) hb)
      have n17_ := Aside0.mk (Kd.R_elder' z11_50 (Kd.R_base ho1) hb)
      have n18_ := Aside0.mk (Kd.R_elder' z11_49 (Kd.R_base ho2) hb)
      have n19_ := Aside0.mk (Kd.R_elder' z11_48 (Kd.R_base ho3) hb)
      have n20_ := Aside0.mk (Kd.R_lower (Kd.R_new' (Kd.R_new' (Kd.R_new' (Kd.R_new' (Kd.R_new' ho0 (Kd.R_lt z11_10)) (Kd.R_lt z11_15)) (Kd.R_lt z11_20)) (Kd.R_lt z11_25)) (Kd.R_lt z11_51)) (below_size z11_1))
      have n21_ := Aside0.mk (Kd.R_lower (Kd.R_new' (Kd.R_new' (Kd.R_new' (Kd.R_new' (Kd.R_new' ho1 (Kd.R_lt z11_9)) (Kd.R_lt z11_14)) (Kd.R_lt z11_19)) (Kd.R_lt z11_24)) (Kd.R_lt z11_50)) (below_size z11_1))
      have n22_ := Aside0.mk (Kd.R_lower (Kd.R_new' (Kd.R_new' (Kd.R_new' (Kd.R_new' (Kd.R_new' ho2 (Kd.R_lt z11_8)) (Kd.R_lt z11_13)) (Kd.R_lt z11_18)) (Kd.R_lt z11_23)) (Kd.R_lt z11_49)) (below_size z11_1))
      have n23_ := Aside0.mk (Kd.R_lower (Kd.R_new' (Kd.R_new' (Kd.R_new' (Kd.R_new' (Kd.R_new' ho3 (Kd.R_lt z11_7)) (Kd.R_lt z11_12)) (Kd.R_lt z11_17)) (Kd.R_lt z11_22)) (Kd.R_lt z11_48)) (below_size z11_1))
      have n24_ := Aside0.mk (blk_below (g := gb238) (o := .cells #[.slice A0_0 l0_0.length c0_0, .slice A0_1 l0_1.length c0_1, .slice A0_2 l0_2.length c0_2, .slice A0_3 l0_3.length c0_3] 27 (0, 0)) z11_2 hb)
      have n25_ := Aside0.mk (blk_below (g := gb239) (o := .cells #[.slice A1_0 l1_0.length c1_0, .slice A1_1 l1_1.length c1_1, .slice A1_2 l1_2.length c1_2, .slice A1_3 l1_3.length c1_3] 27 (0, 0)) z11_4 hb)
      have n26_ := Aside0.mk (blk_below (g := gb279) (o := .cells #[.slice Ao54 t267.length co54, .slice Ao58 t270.length co58, .slice Ao59 t273.length co59, .slice Ao60 t276.length co60] 36 (0, 0)) z11_21 hb)
      have n27_ := Aside0.mk (blk_below (g := gb292) (o := .cells #[.slice Ao64 t280.length co64, .slice Ao69 t283.length co69, .slice Ao70 t286.length co70, .slice Ao71 t289.length co71] 36 (0, 0)) z11_46 hb)
      have n28_ := Aside0.mk (below_step z11_1 hb)
      clear HO244
      clear HO247
      clear HO250
      clear HO253
      clear HO256
      clear HO259
      clear HO262
      clear HO265
      clear HO269
      clear HO272
      clear HO275
      clear HO278
      clear HO282
      clear HO285
      clear HO288
      clear HO291
      clear HO296
      clear HO299
      clear HO302
      clear HO305
      clear BK238
      clear BK239
      clear BK279
      clear BK292
      clear HB
      have HO244 := n0_
      have HO247 := n1_
      have HO250 := n2_
      have HO253 := n3_
      have HO256 := n4_
      have HO259 := n5_
      have HO262 := n6_
      have HO265 := n7_
      have HO269 := n8_
      have HO272 := n9_
      have HO275 := n10_
      have HO278 := n11_
      have HO282 := n12_
      have HO285 := n13_
      have HO288 := n14_
      have HO291 := n15_
      have HO296 := n16_
      have HO299 := n17_
      have HO302 := n18_
      have HO305 := n19_
      have HO309 := n20_
      have HO312 := n21_
      have HO315 := n22_
      have HO318 := n23_
      have BK238 := n24_
      have BK239 := n25_
      have BK279 := n26_
      have BK292 := n27_
      have HB := n28_
      clear n0_ n1_ n2_ n3_ n4_ n5_ n6_ n7_ n8_ n9_ n10_ n11_ n12_ n13_ n14_ n15_ n16_ n17_ n18_ n19_ n20_ n21_ n22_ n23_ n24_ n25_ n26_ n27_ n28_
      (try clear hb)
      (try clear hb2)
      (try clear hk)
      (try clear hi)
      (try clear ho0)
      (try clear ho1)
      (try clear ho2)
      (try clear ho3)
      obtain ⟨Ao83, co83, eo83⟩ := Kd.R_slice HO309.out
      (first | subst eo83 | (injection eo83 with f1_ f2_ f3_; have f4_ := f1_.symm; have f5_ := f3_.symm; clear f1_ f2_ f3_; subst f4_; subst f5_))
      obtain ⟨Ao84, co84, eo84⟩ := Kd.R_slice HO312.out
      (first | subst eo84 | (injection eo84 with f1_ f2_ f3_; have f4_ := f1_.symm; have f5_ := f3_.symm; clear f1_ f2_ f3_; subst f4_; subst f5_))
      obtain ⟨Ao85, co85, eo85⟩ := Kd.R_slice HO315.out
      (first | subst eo85 | (injection eo85 with f1_ f2_ f3_; have f4_ := f1_.symm; have f5_ := f3_.symm; clear f1_ f2_ f3_; subst f4_; subst f5_))
      obtain ⟨Ao86, co86, eo86⟩ := Kd.R_slice HO318.out
      (first | subst eo86 | (injection eo86 with f1_ f2_ f3_; have f4_ := f1_.symm; have f5_ := f3_.symm; clear f1_ f2_ f3_; subst f4_; subst f5_))
      refine hK.out _ _ ⟨(blk_cell BK292.out 0).trans rfl, (blk_cell BK292.out 1).trans rfl, (blk_cell BK292.out 2).trans rfl, (blk_cell BK292.out 3).trans rfl, (blk_cell BK239.out 0).trans rfl, (blk_cell BK239.out 1).trans rfl, (blk_cell BK239.out 2).trans rfl, (blk_cell BK239.out 3).trans rfl⟩ (fun hHeld => ?_)
      clear hK K
      refine norm_ (a' := ?_) ?_ ?_
      rotate_left
      ·
       show Act.put _ (some 42) _ = _
       simp only [Act.put, List.setIfInBounds_toArray, List.set_cons_zero, List.set_cons_succ, i64_w, i32_w]
       rfl
      refine one_ (i := 3) (N := some 43) #[true, true, true, true, false] rfl rfl z11_47 (by decide) (fun K hK => ?_)
      refine goes_ Try.func14 z11_47 rfl #[.agg #[.slice Ao64 t280.length co64, .slice Ao69 t283.length co69, .slice Ao70 t286.length co70, .slice Ao71 t289.length co71], .agg #[.slice Ao83 t307.length co83, .slice Ao84 t310.length co84, .slice Ao85 t313.length co85, .slice Ao86 t316.length co86]] (by rfl) rfl rfl z11_6 ?_
      with_reducible refine (laws_eqState.calls k _ _ t280 _ _ t283 _ _ t286 _ _ t289 _ _ t307 _ _ t310 _ _ t313 _ _ t316 true _ ?side1 ?side2 ?side3 ?side4 ?side5 ?side6 ?side7 ?side8 ?side9 ?side10 ?side11 ?side12 ?side13 ?side14 ?side15 ?side16 A30.out).mono ?_
      (case side1 => repeat (first | exact (Kd.R_reads' HO282.out).2.2 | (with_reducible refine Kd.C_alloc ?_ _) | (with_reducible refine Kd.C_drewN ?_ _) | (with_reducible refine Kd.C_drew ?_)))
      (case side2 => exact (Kd.R_reads' HO282.out).2.1)
      (case side3 => repeat (first | exact (Kd.R_reads' HO285.out).2.2 | (with_reducible refine Kd.C_alloc ?_ _) | (with_reducible refine Kd.C_drewN ?_ _) | (with_reducible refine Kd.C_drew ?_)))
      (case side4 => exact (Kd.R_reads' HO285.out).2.1)
      (case side5 => repeat (first | exact (Kd.R_reads' HO288.out).2.2 | (with_reducible refine Kd.C_alloc ?_ _) | (with_reducible refine Kd.C_drewN ?_ _) | (with_reducible refine Kd.C_drew ?_)))
      (case side6 => exact (Kd.R_reads' HO288.out).2.1)
      (case side7 => repeat (first | exact (Kd.R_reads' HO291.out).2.2 | (with_reducible refine Kd.C_alloc ?_ _) | (with_reducible refine Kd.C_drewN ?_ _) | (with_reducible refine Kd.C_drew ?_)))
      (case side8 => exact (Kd.R_reads' HO291.out).2.1)
      (case side9 => repeat (first | exact (Kd.R_reads' HO309.out).2.2 | (with_reducible refine Kd.C_alloc ?_ _) | (with_reducible refine Kd.C_drewN ?_ _) | (with_reducible refine Kd.C_drew ?_)))
      (case side10 => exact (Kd.R_reads' HO309.out).2.1)
      (case side11 => repeat (first | exact (Kd.R_reads' HO312.out).2.2 | (with_reducible refine Kd.C_alloc ?_ _) | (with_reducible refine Kd.C_drewN ?_ _) | (with_reducible refine Kd.C_drew ?_)))
      (case side12 => exact (Kd.R_reads' HO312.out).2.1)
      (case side13 => repeat (first | exact (Kd.R_reads' HO315.out).2.2 | (with_reducible refine Kd.C_alloc ?_ _) | (with_reducible refine Kd.C_drewN ?_ _) | (with_reducible refine Kd.C_drew ?_)))
      (case side14 => exact (Kd.R_reads' HO315.out).2.1)
      (case side15 => repeat (first | exact (Kd.R_reads' HO318.out).2.2 | (with_reducible refine Kd.C_alloc ?_ _) | (with_reducible refine Kd.C_drewN ?_ _) | (with_reducible refine Kd.C_drew ?_)))
      (case side16 => exact (Kd.R_reads' HO318.out).2.1)
      rintro e w87 ⟨rfl, hb⟩
      refine ⟨_, rfl, ?_⟩
      have n0_ := Aside0.mk (Kd.R_below z11_10 hb)
      have n1_ := Aside0.mk (Kd.R_below z11_9 hb)
      have n2_ := Aside0.mk (Kd.R_below z11_8 hb)
      have n3_ := Aside0.mk (Kd.R_below z11_7 hb)
      have n4_ := Aside0.mk (Kd.R_below z11_15 hb)
      have n5_ := Aside0.mk (Kd.R_below z11_14 hb)
      have n6_ := Aside0.mk (Kd.R_below z11_13 hb)
      have n7_ := Aside0.mk (Kd.R_below z11_12 hb)
      have n8_ := Aside0.mk (Kd.R_below z11_20 hb)
      have n9_ := Aside0.mk (Kd.R_below z11_19 hb)
      have n10_ := Aside0.mk (Kd.R_below z11_18 hb)
      have n11_ := Aside0.mk (Kd.R_below z11_17 hb)
      have n12_ := Aside0.mk (Kd.R_below z11_25 hb)
      have n13_ := Aside0.mk (Kd.R_below z11_24 hb)
      have n14_ := Aside0.mk (Kd.R_below z11_23 hb)
      have n15_ := Aside0.mk (Kd.R_below z11_22 hb)
      have n16_ := Aside0.mk (Kd.R_below z11_51 hb)
      have n17_ := Aside0.mk (Kd.R_below z11_50 hb)
      have n18_ := Aside0.mk (Kd.R_below z11_49 hb)
      have n19_ := Aside0.mk (Kd.R_below z11_48 hb)
      have n20_ := Aside0.mk (Kd.R_below (by (with_reducible repeat (first | apply Kd.R_alloc | apply Kd.R_drewN | apply Kd.R_drew)); exact HO309.out) hb)
      have n21_ := Aside0.mk (Kd.R_below (by (with_reducible repeat (first | apply Kd.R_alloc | apply Kd.R_drewN | apply Kd.R_drew)); exact HO312.out) hb)
      have n22_ := Aside0.mk (Kd.R_below (by (with_reducible repeat (first | apply Kd.R_alloc | apply Kd.R_drewN | apply Kd.R_drew)); exact HO315.out) hb)
      have n23_ := Aside0.mk (Kd.R_below (by (with_reducible repeat (first | apply Kd.R_alloc | apply Kd.R_drewN | apply Kd.R_drew)); exact HO318.out) hb)
      have n24_ := Aside0.mk (blk_below (g := gb238) (o := .cells #[.slice A0_0 l0_0.length c0_0, .slice A0_1 l0_1.length c0_1, .slice A0_2 l0_2.length c0_2, .slice A0_3 l0_3.length c0_3] 27 (0, 0)) z11_2 hb)
      have n25_ := Aside0.mk (blk_below (g := gb239) (o := .cells #[.slice A1_0 l1_0.length c1_0, .slice A1_1 l1_1.length c1_1, .slice A1_2 l1_2.length c1_2, .slice A1_3 l1_3.length c1_3] 27 (0, 0)) z11_4 hb)
      have n26_ := Aside0.mk (blk_below (g := gb279) (o := .cells #[.slice Ao54 t267.length co54, .slice Ao58 t270.length co58, .slice Ao59 t273.length co59, .slice Ao60 t276.length co60] 36 (0, 0)) z11_21 hb)
      have n27_ := Aside0.mk (blk_below (g := gb292) (o := .cells #[.slice Ao64 t280.length co64, .slice Ao69 t283.length co69, .slice Ao70 t286.length co70, .slice Ao71 t289.length co71] 36 (0, 0)) z11_46 hb)
      have n28_ := Aside0.mk (below_step z11_1 hb)
      clear HO244
      clear HO247
      clear HO250
      clear HO253
      clear HO256
      clear HO259
      clear HO262
      clear HO265
      clear HO269
      clear HO272
      clear HO275
      clear HO278
      clear HO282
      clear HO285
      clear HO288
      clear HO291
      clear HO296
      clear HO299
      clear HO302
      clear HO305
      clear HO309
      clear HO312
      clear HO315
      clear HO318
      clear BK238
      clear BK239
      clear BK279
      clear BK292
      clear HB
      have HO244 := n0_
      have HO247 := n1_
      have HO250 := n2_
      have HO253 := n3_
      have HO256 := n4_
      have HO259 := n5_
      have HO262 := n6_
      have HO265 := n7_
      have HO269 := n8_
      have HO272 := n9_
      have HO275 := n10_
      have HO278 := n11_
      have HO282 := n12_
      have HO285 := n13_
      have HO288 := n14_
      have HO291 := n15_
      have HO296 := n16_
      have HO299 := n17_
      have HO302 := n18_
      have HO305 := n19_
      have HO309 := n20_
      have HO312 := n21_
      have HO315 := n22_
      have HO318 := n23_
      have BK238 := n24_
      have BK239 := n25_
      have BK279 := n26_
      have BK292 := n27_
      have HB := n28_
      clear n0_ n1_ n2_ n3_ n4_ n5_ n6_ n7_ n8_ n9_ n10_ n11_ n12_ n13_ n14_ n15_ n16_ n17_ n18_ n19_ n20_ n21_ n22_ n23_ n24_ n25_ n26_ n27_ n28_
      (try clear hb)
      (try clear hb2)
      (try clear hk)
      (try clear hi)
      refine hK.out _ _ ⟨(blk_cell BK292.out 0).trans rfl, (blk_cell BK292.out 1).trans rfl, (blk_cell BK292.out 2).trans rfl, (blk_cell BK292.out 3).trans rfl, (blk_cell BK239.out 0).trans rfl, (blk_cell BK239.out 1).trans rfl, (blk_cell BK239.out 2).trans rfl, (blk_cell BK239.out 3).trans rfl⟩ (fun hHeld => ?_)
      clear hK K
      refine norm_ (a' := ?_) ?_ ?_
      rotate_left
      ·
       show Act.put _ (some 43) _ = _
       simp only [Act.put, List.setIfInBounds_toArray, List.set_cons_zero, List.set_cons_succ, i64_w, i32_w]
       rfl
      refine pure_ (i := 4) (N := some 44) (v := ?_) (a' := ?_) #[true, true, true, true, true] rfl rfl z11_47 (fun _ _ _ h => h) (Or.inl ⟨by rfl, ?_⟩) ?_ ?_
      rotate_left
      ·
       exact (by intro w'; go_simp; with_reducible rfl)
      rotate_left
      ·
       exact z11_16
      refine done_ z11_47 ?_
      try go_wp2
      go_ret
      exact ⟨z11_52, z11_1⟩
     ·
      replace c31 := Bool.eq_false_iff.mpr c31
      subst c31
      rw [if_neg (show ¬ (false = true) by decide)] at H
      exact absurd H (by simp)
    ·
     replace c28 := Bool.eq_false_iff.mpr c28
     subst c28
     rw [if_neg (show ¬ (false = true) by decide)] at H
     exact absurd H (by simp)

end Go.Proofs.Ytbanogkoaplcdaa.QFnExactSameState
