/- What the functions behind RA compute, and that the program's calls come to just that. Written by a program of this session on the base of the kit's print. No condition. -/
import Derived.Test.YthajpckfodhhpaaVFnActsShort
import Derived.Test.YthajpckfodhhpaaVFnActsQRAx0
import Derived.Test.YthajpckfodhhpaaVFnActsQRAx2
import Derived.Test.YthajpckfodhhpaaVFnActsQRAx3
namespace Go.Proofs.Ythajpckfodhhpaa.QRA
open Go.RowKit Go.Proofs.Ythajpckfodhhpaa.Short Go.Proofs.YthajpckfodhhpaaW.PrintWords Go.Proofs.YthajpckfodhhpaaW.PrintLast Go.Proofs.YthajpckfodhhpaaW.PrintMore
attribute [local go_sem] max2_int min2_int max_two min_two max_three min_three max_four min_four   -- for this text's walks alone
set_option linter.unusedVariables false
set_option linter.unusedSimpArgs false
theorem z4_21 {P : Prop} (h : P := by first | (with_reducible assumption) | assumption) : P := h
theorem z4_20 {P : Prop} (h : P := by kernel_rfl) : P := h
theorem z4_19 {P : Prop} (h : P := by first | rfl | (simp [errW_none, errW_some] <;> rfl) | (simp [*, errW_none, errW_some] <;> rfl)) : P := h
theorem z4_18 {P : Prop} (h : P := by repeat (first | (with_reducible first | exact HK.out | apply KeepBut.set_ | apply keep_drewN | apply keep_drew | apply keep_alloc) | exact HK.out)) : P := h
theorem z4_17 {P : Prop} (h : P := by (with_reducible repeat (first | apply Kd.R_alloc | apply Kd.R_drewN | apply Kd.R_drew)); exact HO182.out) : P := h
theorem z4_16 {P : Prop} (h : P := by repeat (first | (with_reducible first | exact HI0.out | apply IsS74.alloc | apply IsS74.drewN | apply IsS74.drew | apply IsS74.set_1 | apply IsS74.set_2 | refine IsS74.far ?_ NB0_172.out _ | refine IsS74.far ?_ NB0_191.out _ | refine IsS74.far ?_ NB0_208.out _) | exact HI0.out)) : P := h
theorem z4_15 {P : Prop} (h : P := by (with_reducible repeat (first | apply blk_far (hp := NB172_208.out) | refine blk_drewN ?_ _ | refine blk_drew ?_ | refine blk_alloc ?_ _)); exact BK172.out) : P := h
theorem z4_14 {P : Prop} (h : P := by (with_reducible repeat (first | apply blk_far (hp := NB191_208.out) | refine blk_drewN ?_ _ | refine blk_drew ?_ | refine blk_alloc ?_ _)); exact BK191.out) : P := h
theorem z4_13 {P : Prop} (h : P := by (with_reducible repeat (first | apply Kd.R_alloc | apply Kd.R_drewN | apply Kd.R_drew)); exact HO_192003.out) : P := h
theorem z4_12 {P : Prop} (h : P := by (with_reducible repeat (first | apply bpa2 | refine blk_drewN ?_ _ | refine blk_drew ?_ | refine blk_alloc ?_ _)); exact BK208.out) : P := h
theorem z4_11 {P : Prop} (h : P := by repeat (first | (with_reducible first | exact HK.out | apply KeepBut.set_ | apply keep_drewN | apply keep_drew | apply keep_alloc | refine keep_far ?_ GW172.out _ | refine keep_far ?_ GW191.out _ | refine keep_far ?_ GW208.out _) | exact HK.out)) : P := h
theorem z4_10 {P : Prop} (h : P := by (with_reducible repeat (first | apply Kd.R_alloc | apply Kd.R_drewN | apply Kd.R_drew)); apply Kd.R_mono; (with_reducible repeat (first | apply Kd.R_far | apply Kd.R_alloc | apply Kd.R_drewN | apply Kd.R_drew)); exact Kd.R_types HO_192003.out BK172.out (by decide); all_goals (intro _ hk; first | exact trivial | exact hk.2 | trivial)) : P := h
theorem z4_9 {P : Prop} (h : P := by first | rfl | (simp only [List.map_toArray, List.map_cons, List.map_nil]; first | done | rfl)) : P := h
theorem z4_8 {P : Prop} (h : P := by repeat (first | (with_reducible first | exact HB.out | apply below_alloc | apply pw_below_drewN | apply below_drew1 | refine below_set ?_ (IsS74.ge HI0.out) | refine below_set ?_ GE172.out | refine below_set ?_ GE191.out | refine below_set ?_ GE208.out) | exact HB.out)) : P := h
theorem z4_7 {P : Prop} (h : P := by repeat (first | (with_reducible first | exact HK.out | apply KeepBut.set_ | apply keep_drewN | apply keep_drew | apply keep_alloc | refine keep_far ?_ GW172.out _) | exact HK.out)) : P := h
theorem z4_6 {P : Prop} (h : P := by (with_reducible repeat (first | refine blk_drewN ?_ _ | refine blk_drew ?_ | refine blk_alloc ?_ _)); exact BK191.out) : P := h
theorem z4_5 {P : Prop} (h : P := by (with_reducible repeat (first | apply Kd.R_alloc | apply Kd.R_drewN | apply Kd.R_drew)); exact (Kd.R_mono (Kd.R_far (p := ⟨gb208, 1, none⟩) (Kd.R_far (p := ⟨gb208, 0, none⟩) (Kd.R_types HO_192003.out BK208.out (by decide)) (fun _ hk => by first | exact hk.2 | trivial) (.int .i64 t204)) (fun _ hk => by first | exact hk.2 | trivial) (.int .i64 t205)) (fun _ h_ => h_.1))) : P := h
theorem z4_4 {P : Prop} (h : P := by repeat (first | (with_reducible first | exact HB.out | apply below_alloc | apply pw_below_drewN | apply below_drew1 | refine below_set ?_ (IsS74.ge HI0.out) | refine below_set ?_ GE172.out | refine below_set ?_ GE191.out) | exact HB.out)) : P := h
theorem z4_3 {P : Prop} (h : P := by repeat (first | (with_reducible first | exact HI0.out | apply IsS74.alloc | apply IsS74.drewN | apply IsS74.drew | apply IsS74.set_1 | apply IsS74.set_2 | refine IsS74.far ?_ NB0_172.out _ | refine IsS74.far ?_ NB0_191.out _) | exact HI0.out)) : P := h
theorem z4_2 {P : Prop} (h : P := by (with_reducible repeat (first | refine blk_drewN ?_ _ | refine blk_drew ?_ | refine blk_alloc ?_ _)); exact BK172.out) : P := h
theorem z4_1 {P : Prop} (h : P := by (with_reducible repeat (first | apply bpa10 | refine blk_drewN ?_ _ | refine blk_drew ?_ | refine blk_alloc ?_ _)); exact BK172.out) : P := h
theorem z4_0 {P : Prop} (h : P := by repeat (first | (with_reducible first | exact HK.out | apply KeepBut.set_ | apply keep_drewN | apply keep_drew | apply keep_alloc | refine keep_far ?_ GW172.out _ | refine keep_far ?_ GW191.out _) | exact HK.out)) : P := h
theorem z4_22 {P : Prop} (h : P := by repeat (first | (with_reducible first | exact HI0.out | apply IsS74.alloc | apply IsS74.drewN | apply IsS74.drew | apply IsS74.set_1 | apply IsS74.set_2 | refine IsS74.far ?_ NB0_172.out _) | exact HI0.out)) : P := h
theorem z4_23 {P : Prop} (h : P := by repeat (first | (with_reducible first | exact HB.out | apply below_alloc | apply pw_below_drewN | apply below_drew1 | refine below_set ?_ (IsS74.ge HI0.out) | refine below_set ?_ GE172.out) | exact HB.out)) : P := h
theorem z4_26 {P : Prop} (h : P := by refine (Kd.R_reads' (e := 3) (base := w.heap.size) (ok := fun k_ => True) (n := y192.length) (c := co18) ?_).2.2; exact z4_5) : P := h
mutual
def spec_l05Act.j0 : Nat → List Int → Int → Int → Int → Int → Int → List Int → Int → ByteArray → ByteArray → Int → Int → Int → Option (Int × Int × Int × List Int × Int × ByteArray × ByteArray × Int × Int × Int × Int × Int)
  | 0, _, _, _, _, _, _, _, _, _, _, _, _, _ => none
  | k + 1, x1000, x1001, x1002, x192000, x192001, x192002, x192003, x192004, x192005, x192006, x192007, x192008, x192009 => (spec_l05Valued.f x192004).bind fun t197 => (if t197 = true then ((spec_l01PickInt.f x1000 x1001 x1002 (([0, 1, 7, 999999] : List Int))).bind fun bt201 => (spec_l05Act.j1 k x1000 bt201.2.1 bt201.2.2 x192000 x192001 x192002 x192003 x192004 x192005 x192006 bt201.1 x192008 x192009)) else (spec_l05Act.j1 k x1000 x1001 x1002 x192000 x192001 x192002 x192003 x192004 x192005 x192006 x192007 x192008 x192009))
def spec_l05Act.j1 : Nat → List Int → Int → Int → Int → Int → Int → List Int → Int → ByteArray → ByteArray → Int → Int → Int → Option (Int × Int × Int × List Int × Int × ByteArray × ByteArray × Int × Int × Int × Int × Int)
  | 0, _, _, _, _, _, _, _, _, _, _, _, _, _ => none
  | k + 1, x1000, x1001, x1002, x192000, x192001, x192002, x192003, x192004, x192005, x192006, x192007, x192008, x192009 => if x192004 ≥ 6 then ((spec_l04Dot.f x1000 x1001 x1002).bind fun bt204 => ((spec_Knows.f k x192003 bt204.1 bt204.2.1).bind fun t209 => (if t209 = true then (some (x192000, x192001, x192002, x192003, x192004, x192005, x192006, x192007, bt204.1, bt204.2.1, bt204.2.2.1, bt204.2.2.2)) else (if x192004 = 7 then (some (x192000, x192001, x192002, x192003, 6, x192005, x192006, x192007, x192008, x192009, bt204.2.2.1, bt204.2.2.2)) else (some (x192000, x192001, x192002, x192003, x192004, x192005, x192006, x192007, x192008, x192009, bt204.2.2.1, bt204.2.2.2)))))) else (some (x192000, x192001, x192002, x192003, x192004, x192005, x192006, x192007, x192008, x192009, x1001, x1002))
end


def spec_l05Act.f (k : Nat) (s0_0 : List Int) (s0_1 : Int) (s0_2 : Int) : Option (Int × Int × Int × List Int × Int × ByteArray × ByteArray × Int × Int × Int × Int × Int) := (spec_l04Dot.f s0_0 s0_1 s0_2).bind fun bt173 => ((spec_l01Below.f s0_0 bt173.2.2.1 bt173.2.2.2 9).bind fun bt177 => ((spec_l04Know.f k s0_0 bt177.2.1 bt177.2.2).bind fun bt180 => ((spec_l01Below.f s0_0 bt180.2.1 bt180.2.2 7).bind fun bt185 => ((spec_l05Obj.f s0_0 bt185.2.1 bt185.2.2).bind fun bt188 => (if 0 ≤ bt173.1 then (if bt173.1 < (bt180.1.length : Int) then ((some (bt180.1.set (bt173.1 : Int).toNat (wrap64 (bt173.2.1 - 1)) : List Int)).bind fun y192 => ((spec_l05Keyed.f (wrap64 (1 + bt185.1))).bind fun t193 => (if t193 = true then ((spec_l05Key.f s0_0 bt188.2.1 bt188.2.2).bind fun bt194 => (spec_l05Act.j0 k s0_0 bt194.2.1 bt194.2.2 bt173.1 bt173.2.1 (wrap64 (1 + bt177.1)) y192 (wrap64 (1 + bt185.1)) bt188.1 bt194.1 0 0 0)) else (spec_l05Act.j0 k s0_0 bt188.2.1 bt188.2.2 bt173.1 bt173.2.1 (wrap64 (1 + bt177.1)) y192 (wrap64 (1 + bt185.1)) bt188.1 (⟨#[]⟩ : ByteArray) 0 0 0)))) else (none)) else (none))))))
set_option maxHeartbeats 8000000 in
set_option maxRecDepth 100000 in
theorem spec_l05Act.calls (k : Nat) (g : Nat) (s0_0 : List Int) (s0_1 : Int) (s0_2 : Int) (r1 : Int) (r2 : Int) (r3 : Int) (r4 : List Int) (r5 : Int) (r6 : ByteArray) (r7 : ByteArray) (r8 : Int) (r9 : Int) (r10 : Int) (r11 : Int) (r12 : Int) (w0 w : World) (hI : IsS74 w0 w g s0_0 s0_1 s0_2) (hB : Below w0.heap.size w0 w) (h : spec_l05Act.f k s0_0 s0_1 s0_2 = some (r1, r2, r3, r4, r5, r6, r7, r8, r9, r10, r11, r12)) :
  Calls Try.prog 54 #[.pointer (some ⟨g, 0, none⟩)] w fun e w' => ∃ v3_ : Value, e = .returned (.agg #[.int .i64 r1, .int .i64 r2, .int .i64 r3, v3_, .int .i64 r5, .string r6, .string r7, .int .i64 r8, .int .i64 r9, .int .i64 r10]) ∧ Kd.R (Kd.int .i64) 3 w' w.heap.size (fun _ => True) v3_ r4 ∧ IsS74 w0 w' g s0_0 r11 r12 ∧ Below w0.heap.size w0 w' ∧ KeepBut w w' g none := by
 have hu31 := Try.underlying31
 have hu28 := Try.underlying28
 have HI0 := Aside0.mk hI
 have HK := Aside0.mk (KeepBut.refl w g none)
 have HL := Aside0.mk hB.size
 clear hI
 have HW0 := Aside0.mk hB.size
 have HB := Aside0.mk hB
 clear hB
 have H := h
 unfold spec_l05Act.f at H
 clear h
 replace H := Option.bind_eq_some_iff.mp H
 obtain ⟨⟨t173, t174, t175, t176⟩, A20, H⟩ := H
 (try dsimp only at H)
 have A2 := Aside0.mk A20
 clear A20
 replace H := Option.bind_eq_some_iff.mp H
 obtain ⟨⟨t177, t178, t179⟩, A30, H⟩ := H
 (try dsimp only at H)
 have A3 := Aside0.mk A30
 clear A30
 replace H := Option.bind_eq_some_iff.mp H
 obtain ⟨⟨t180, t183, t184⟩, A40, H⟩ := H
 (try dsimp only at H)
 have A4 := Aside0.mk A40
 clear A40
 replace H := Option.bind_eq_some_iff.mp H
 obtain ⟨⟨t185, t186, t187⟩, A50, H⟩ := H
 (try dsimp only at H)
 have A5 := Aside0.mk A50
 clear A50
 replace H := Option.bind_eq_some_iff.mp H
 obtain ⟨⟨t188, t189, t190⟩, A60, H⟩ := H
 (try dsimp only at H)
 have A6 := Aside0.mk A60
 clear A60
 by_cases c7 : 0 ≤ t173
 rotate_left
 ·
  rw [if_neg c7] at H
  exact absurd H (by simp)
 rw [if_pos c7] at H
 have c7b0 : decide (0 ≤ t173) = true := decide_eq_true c7
 clear c7
 by_cases c8 : t173 < (t180.length : Int)
 rotate_left
 ·
  rw [if_neg c8] at H
  exact absurd H (by simp)
 rw [if_pos c8] at H
 have c8b0 : decide (t173 < (t180.length : Int)) = true := decide_eq_true c8
 clear c8
 obtain ⟨y192, hy192⟩ : ∃ y_ : List Int, y_ = (t180.set (t173 : Int).toNat (wrap64 (t174 - 1))) := ⟨_, rfl⟩
 replace H : ((spec_l05Keyed.f (wrap64 (1 + t185))).bind fun t193 => (if t193 = true then ((spec_l05Key.f s0_0 t189 t190).bind fun bt194 => (spec_l05Act.j0 k s0_0 bt194.2.1 bt194.2.2 t173 t174 (wrap64 (1 + t177)) y192 (wrap64 (1 + t185)) t188 bt194.1 0 0 0)) else (spec_l05Act.j0 k s0_0 t189 t190 t173 t174 (wrap64 (1 + t177)) y192 (wrap64 (1 + t185)) t188 (⟨#[]⟩ : ByteArray) 0 0 0))) = some (r1, r2, r3, r4, r5, r6, r7, r8, r9, r10, r11, r12) := by first | (rw [hy192]; with_reducible exact H) | (have H2_ := (Option.bind_some _ _).symm.trans H; rw [hy192]; with_reducible exact H2_) | (have H2_ := (Option.bind_some _ _).symm.trans H; with_reducible exact H2_) | with_reducible exact H | (rw [hy192]; exact H) | exact H
 have Ny192 := Aside0.mk hy192
 clear hy192
 replace H := Option.bind_eq_some_iff.mp H
 obtain ⟨t193, A100, H⟩ := H
 (try dsimp only at H)
 have A10 := Aside0.mk A100
 clear A100
 have HC11 := Aside0.mk H
 clear H
 go_enter Try.func54, Try.ntmps54
 go_upto_if 30 with (first | ((with_reducible refine gate_dst (N := 2) rfl ?_); refine box_event ?hg (N := 2) ?hd (cs := #[.int .i64 0, .int .i64 0, .int .i64 0, .slice none 0 0, .int .i64 0, .string (⟨#[]⟩ : ByteArray), .string (⟨#[]⟩ : ByteArray), .int .i64 0, .int .i64 0, .int .i64 0]) (t := 31) ?hr ?_; (case hd => rfl); (case hg => rfl); (case hr => first | (go_simp; done) | (go_simp; rfl)); intro gb172 hg w12 hbox hb; replace HB := Aside0.mk (below_step (by repeat (first | (with_reducible first | exact HB.out | apply below_alloc | apply pw_below_drewN | apply below_drew1 | refine below_set ?_ (IsS74.ge HI0.out)) | exact HB.out)) hb); have BK172 := Aside0.mk (hbox); have GW172 := Aside0.mk ((by rw [hg]; exact (keep_size (w := w) (g := g) (row := none) z4_18) : w.heap.size ≤ gb172)); have GE172 := Aside0.mk ((Nat.le_trans HW0.out (by rw [hg]; exact (keep_size (w := w) (g := g) (row := none) z4_18) : w.heap.size ≤ gb172) : w0.heap.size ≤ gb172)); replace HK := Aside0.mk (KeepBut.trans z4_18 (KeepBut.of_below hb g none) (.inl rfl)); have NB0_172 := Aside0.mk ((by rw [hg]; exact Nat.ne_of_lt (IsS74.lt (show IsS74 w0 _ g s0_0 s0_1 s0_2 from by repeat (first | (with_reducible first | exact HI0.out | apply IsS74.alloc | apply IsS74.drewN | apply IsS74.drew | apply IsS74.set_1 | apply IsS74.set_2) | exact HI0.out))) : g ≠ gb172)); have NB172_0 := Aside0.mk ((by rw [hg]; exact Nat.ne_of_gt (IsS74.lt (show IsS74 w0 _ g s0_0 s0_1 s0_2 from by repeat (first | (with_reducible first | exact HI0.out | apply IsS74.alloc | apply IsS74.drewN | apply IsS74.drew | apply IsS74.set_1 | apply IsS74.set_2) | exact HI0.out))) : gb172 ≠ g)); replace HI0 := Aside0.mk (IsS74.below (by repeat (first | (with_reducible first | exact HI0.out | apply IsS74.alloc | apply IsS74.drewN | apply IsS74.drew | apply IsS74.set_1 | apply IsS74.set_2) | exact HI0.out)) hb); clear hb hbox hg) | ((with_reducible refine gate_callee (f := 74) rfl ?_); refine goesL_ (some 6) rfl rfl Try.func74 z4_20 rfl #[.pointer (some ⟨g, 0, none⟩)] rfl z4_9 ?_; (with_reducible refine (spec_l04Dot.calls g s0_0 s0_1 s0_2 t173 t174 t175 t176 w0 _ ?side1 ?side2 A2.out).mono ?_); (case side1 => exact z4_22); (case side2 => exact z4_23); rintro e w13 ⟨rfl, hi, hb, hk⟩; refine ⟨_, rfl, ?_⟩; replace BK172 := kb_ BK172 hk z4_2 NB172_0; replace HK := Aside0.mk (KeepBut.trans z4_7 hk (.inl rfl)); replace HB := Aside0.mk (hb); replace HI0 := Aside0.mk (hi)) | ((with_reducible refine gate_callee (f := 34) rfl ?_); refine goesL_ (some 8) rfl rfl Try.func34 z4_20 rfl #[.pointer (some ⟨g, 0, none⟩), .int .i64 9] rfl z4_9 ?_; (with_reducible refine (spec_l01Below.calls g s0_0 t175 t176 9 t177 t178 t179 w0 _ ?side1 ?side2 A3.out).mono ?_); (case side1 => exact z4_22); (case side2 => exact z4_23); rintro e w14 ⟨rfl, hi, hb, hk⟩; refine ⟨_, rfl, ?_⟩; replace BK172 := kb_ BK172 hk z4_2 NB172_0; replace HK := Aside0.mk (KeepBut.trans z4_7 hk (.inl rfl)); replace HB := Aside0.mk (hb); replace HI0 := Aside0.mk (hi)) | ((with_reducible refine gate_callee (f := 75) rfl ?_); refine goesL_ (some 11) rfl rfl Try.func75 z4_20 rfl #[.pointer (some ⟨g, 0, none⟩)] rfl z4_9 ?_; (with_reducible refine (spec_l04Know.calls k g s0_0 t178 t179 t180 t183 t184 w0 _ ?side1 ?side2 A4.out).mono ?_); (case side1 => exact z4_22); (case side2 => exact z4_23); rintro e w15 ⟨v181, rfl, ho0, hi, hb, hk⟩; refine ⟨_, rfl, ?_⟩; replace BK172 := kb_ BK172 hk z4_2 NB172_0; have HO182 := Aside0.mk (Kd.R_lower ho0 (keep_size (w := w) (g := g) (row := none) z4_7)); replace HK := Aside0.mk (KeepBut.trans z4_7 hk (.inl rfl)); replace HB := Aside0.mk (hb); replace HI0 := Aside0.mk (hi); (try clear ho0)) | ((with_reducible refine gate_callee (f := 34) rfl ?_); refine goesL_ (some 13) rfl rfl Try.func34 z4_20 rfl #[.pointer (some ⟨g, 0, none⟩), .int .i64 7] rfl z4_9 ?_; (with_reducible refine (spec_l01Below.calls g s0_0 t183 t184 7 t185 t186 t187 w0 _ ?side1 ?side2 A5.out).mono ?_); (case side1 => exact z4_22); (case side2 => exact z4_23); rintro e w16 ⟨rfl, hi, hb, hk⟩; refine ⟨_, rfl, ?_⟩; replace BK172 := kb_ BK172 hk z4_2 NB172_0; replace HO182 := Aside0.mk (Kd.R_mono (Kd.R_keep (IsS74.apart (show IsS74 w0 _ g s0_0 t183 t184 from by repeat (first | (with_reducible first | exact HI0.out | apply IsS74.alloc | apply IsS74.drewN | apply IsS74.drew | apply IsS74.set_1 | apply IsS74.set_2 | refine IsS74.far ?_ NB0_172.out _) | exact HI0.out)) z4_17 (by decide)) hk (fun _ h => h.2)) (fun _ h => h.1)); replace HK := Aside0.mk (KeepBut.trans z4_7 hk (.inl rfl)); replace HB := Aside0.mk (hb); replace HI0 := Aside0.mk (hi)) | ((with_reducible refine gate_callee (f := 76) rfl ?_); refine goesL_ (some 16) rfl rfl Try.func76 z4_20 rfl #[.pointer (some ⟨g, 0, none⟩)] rfl z4_9 ?_; (with_reducible refine (spec_l05Obj.calls g s0_0 t186 t187 t188 t189 t190 w0 _ ?side1 ?side2 A6.out).mono ?_); (case side1 => exact z4_22); (case side2 => exact z4_23); rintro e w17 ⟨rfl, hi, hb, hk⟩; refine ⟨_, rfl, ?_⟩; replace BK172 := kb_ BK172 hk z4_2 NB172_0; replace HO182 := Aside0.mk (Kd.R_mono (Kd.R_keep (IsS74.apart (show IsS74 w0 _ g s0_0 t186 t187 from by repeat (first | (with_reducible first | exact HI0.out | apply IsS74.alloc | apply IsS74.drewN | apply IsS74.drew | apply IsS74.set_1 | apply IsS74.set_2 | refine IsS74.far ?_ NB0_172.out _) | exact HI0.out)) z4_17 (by decide)) hk (fun _ h => h.2)) (fun _ h => h.1)); replace HK := Aside0.mk (KeepBut.trans z4_7 hk (.inl rfl)); replace HB := Aside0.mk (hb); replace HI0 := Aside0.mk (hi); obtain ⟨Ao18, co18, eo18⟩ := Kd.R_slice HO182.out; subst eo18) | ((with_reducible refine gate_dst (N := 3) rfl ?_); refine box_event ?hg (N := 3) ?hd (cs := #[.int .i64 0, .int .i64 0, .int .i64 0, .slice none 0 0, .int .i64 0, .string (⟨#[]⟩ : ByteArray), .string (⟨#[]⟩ : ByteArray), .int .i64 0, .int .i64 0, .int .i64 0]) (t := 31) ?hr ?_; (case hd => rfl); (case hg => rfl); (case hr => first | (go_simp; done) | (go_simp; rfl)); intro gb191 hg w19 hbox hb; replace HO182 := Aside0.mk (Kd.R_below z4_17 hb); replace HB := Aside0.mk (below_step (by repeat (first | (with_reducible first | exact HB.out | apply below_alloc | apply pw_below_drewN | apply below_drew1 | refine below_set ?_ (IsS74.ge HI0.out) | refine below_set ?_ GE172.out) | exact HB.out)) hb); have BK191 := Aside0.mk (hbox); have GW191 := Aside0.mk ((by rw [hg]; exact (keep_size (w := w) (g := g) (row := none) z4_7) : w.heap.size ≤ gb191)); have GE191 := Aside0.mk ((Nat.le_trans HW0.out (by rw [hg]; exact (keep_size (w := w) (g := g) (row := none) z4_7) : w.heap.size ≤ gb191) : w0.heap.size ≤ gb191)); replace HK := Aside0.mk (KeepBut.trans z4_7 (KeepBut.of_below hb g none) (.inl rfl)); have NB172_191 := nb_ BK172 z4_2 hg; have NB191_172 := nc_ BK172 z4_2 hg; replace BK172 := bb_ BK172 z4_2 hb; have NB0_191 := Aside0.mk ((by rw [hg]; exact Nat.ne_of_lt (IsS74.lt (show IsS74 w0 _ g s0_0 t189 t190 from by repeat (first | (with_reducible first | exact HI0.out | apply IsS74.alloc | apply IsS74.drewN | apply IsS74.drew | apply IsS74.set_1 | apply IsS74.set_2 | refine IsS74.far ?_ NB0_172.out _) | exact HI0.out))) : g ≠ gb191)); have NB191_0 := Aside0.mk ((by rw [hg]; exact Nat.ne_of_gt (IsS74.lt (show IsS74 w0 _ g s0_0 t189 t190 from by repeat (first | (with_reducible first | exact HI0.out | apply IsS74.alloc | apply IsS74.drewN | apply IsS74.drew | apply IsS74.set_1 | apply IsS74.set_2 | refine IsS74.far ?_ NB0_172.out _) | exact HI0.out))) : gb191 ≠ g)); replace HI0 := Aside0.mk (IsS74.below (by repeat (first | (with_reducible first | exact HI0.out | apply IsS74.alloc | apply IsS74.drewN | apply IsS74.drew | apply IsS74.set_1 | apply IsS74.set_2 | refine IsS74.far ?_ NB0_172.out _) | exact HI0.out)) hb); clear hb hbox hg; have hnb20 := NB191_172.out; have hnc20 := NB172_191.out; have hnb21 := NB191_0.out; have hnc21 := NB0_191.out; have hcz22 := bc10 BK191.out) | ((with_reducible refine gate_store (t := 31) (p := 3) rfl ?_); refine store_event (t := 31) (p := 3) (v := ?vo_w23) (w1 := ((((((((((w19.setCell ⟨gb191, 0, none⟩ (.int .i64 t173)).setCell ⟨gb191, 1, none⟩ (.int .i64 t174)).setCell ⟨gb191, 2, none⟩ (.int .i64 (wrap64 (1 + t177)))).setCell ⟨gb191, 3, none⟩ (.slice Ao18 t180.length co18)).setCell ⟨gb191, 4, none⟩ (.int .i64 (wrap64 (1 + t185)))).setCell ⟨gb191, 5, none⟩ (.string t188)).setCell ⟨gb191, 6, none⟩ (.string (⟨#[]⟩ : ByteArray))).setCell ⟨gb191, 7, none⟩ (.int .i64 0)).setCell ⟨gb191, 8, none⟩ (.int .i64 0)).setCell ⟨gb191, 9, none⟩ (.int .i64 0))) ?hg ?ho ?hn ?hr ?_; (case ho => rfl); (case hg => rfl); (case hn => rfl); (case hr => first | (go_simp; done) | (go_simp; rfl)); intro w23 hw; replace HO182 : Aside0 (Kd.R (Kd.int .i64) 3 w23 w.heap.size (fun _ => True) (.slice Ao18 t180.length co18) t180) := ⟨(by rw [hw]; exact (by (with_reducible repeat (first | apply Kd.R_alloc | apply Kd.R_drewN | apply Kd.R_drew)); apply Kd.R_mono; (with_reducible repeat (first | apply Kd.R_far | apply Kd.R_alloc | apply Kd.R_drewN | apply Kd.R_drew)); exact Kd.R_types HO182.out BK191.out (by decide); all_goals (intro _ hk; first | exact trivial | exact hk.2 | trivial)))⟩; replace BK172 : Aside0 (w23.heap[gb172]? = some (.cells #[.int .i64 0, .int .i64 0, .int .i64 0, .slice none 0 0, .int .i64 0, .string (⟨#[]⟩ : ByteArray), .string (⟨#[]⟩ : ByteArray), .int .i64 0, .int .i64 0, .int .i64 0] 31 (0, 0))) := ⟨(by rw [hw]; exact (by (with_reducible repeat (first | apply blk_far (hp := NB172_191.out) | refine blk_drewN ?_ _ | refine blk_drew ?_ | refine blk_alloc ?_ _)); exact BK172.out))⟩; replace BK191 : Aside0 (w23.heap[gb191]? = some (.cells #[.int .i64 t173, .int .i64 t174, .int .i64 (wrap64 (1 + t177)), .slice Ao18 t180.length co18, .int .i64 (wrap64 (1 + t185)), .string t188, .string (⟨#[]⟩ : ByteArray), .int .i64 0, .int .i64 0, .int .i64 0] 31 (0, 0))) := ⟨(by rw [hw]; exact (by (with_reducible repeat (first | apply bpa10 | refine blk_drewN ?_ _ | refine blk_drew ?_ | refine blk_alloc ?_ _)); exact BK191.out))⟩; replace HK : Aside0 (KeepBut w w23 g none) := ⟨(by rw [hw]; exact z4_0)⟩; replace HB : Aside0 (Below w0.heap.size w0 w23) := ⟨(by rw [hw]; exact z4_4)⟩; replace HI0 : Aside0 (IsS74 w0 w23 g s0_0 t189 t190) := ⟨(by rw [hw]; exact z4_3)⟩; clear hw; have hcz24 := bc10 BK191.out; have p9 : 0 ≤ (t173 : Int) := of_decide_eq_true z4_21; have q9 : (t173 : Int) < ((t180.length : Int) : Int) := of_decide_eq_true z4_21; obtain ⟨go9, co9, eo9, gb9, gl9, cl9, HG9⟩ := Kd.R_form HO182.out (by omega); (first | cases eo9 | (injection eo9 with ea_ en_ ec_; (first | subst ea_ | (injection ea_ with ea_; subst ea_)); subst ec_; clear en_)); have GB9 := Aside0.mk gb9; have GG9 := Aside0.mk HG9; clear gb9 gl9 HG9; obtain ⟨hx9_0, hf9_0⟩ := Kd.R_celln 0 HO182.out (t173 : Int) p9 q9; replace p9 := eq_true p9; replace q9 := eq_true q9; obtain ⟨hy25_, hz25_⟩ := Kd.R_celln 0 HO182.out (t173 : Int) (of_decide_eq_true z4_21) (of_decide_eq_true z4_21); have HP25 := Kd.R_putg HO182.out (t173 : Int) (wrap64 (t174 - 1))) | ((with_reducible refine gate_store (t := 3) (p := 27) rfl ?_); refine store_event (t := 3) (p := 27) (v := ?vo_w26) (w1 := (w23.setCell ⟨go9, (t173 : Int).toNat, none⟩ (.int .i64 (wrap64 (t174 - 1))))) ?hg ?ho ?hn ?hr ?_; (case ho => rfl); (case hg => rfl); (case hn => rfl); (case hr => first | (go_simp; done) | (go_simp; rfl)); intro w26 hw; have hg : w23.grownBy w26 (some go9) := (by rw [hw]; exact HP25.2); have hp_ : Kd.R (Kd.int .i64) 3 w26 w.heap.size (fun _ => True) (.slice (some ⟨go9, 0, none⟩) t180.length co18) y192 := (by rw [hw, Ny192.out]; exact HP25.1); clear HP25; replace HI0 := Aside0.mk (IsS74.grown z4_3 hg (IsS74.own_ne HI0.out HO182.out (by decide))); replace BK172 := Aside0.mk (blk_grown (g := gb172) (o := .cells #[.int .i64 0, .int .i64 0, .int .i64 0, .slice none 0 0, .int .i64 0, .string (⟨#[]⟩ : ByteArray), .string (⟨#[]⟩ : ByteArray), .int .i64 0, .int .i64 0, .int .i64 0] 31 (0, 0)) z4_2 hg (Kd.R_ne HO182.out BK172.out (by decide))); replace BK191 := Aside0.mk (blk_grown (g := gb191) (o := .cells #[.int .i64 t173, .int .i64 t174, .int .i64 (wrap64 (1 + t177)), .slice (some ⟨go9, 0, none⟩) t180.length co18, .int .i64 (wrap64 (1 + t185)), .string t188, .string (⟨#[]⟩ : ByteArray), .int .i64 0, .int .i64 0, .int .i64 0] 31 (0, 0)) z4_6 hg (Kd.R_ne HO182.out BK191.out (by decide))); replace HB := Aside0.mk ((by rw [hw]; exact below_set (HB.out) (Nat.le_trans HL.out GB9.out) : Below w0.heap.size w0 w26)); replace HK := Aside0.mk (KeepBut.trans z4_0 (KeepBut.of_grown hg g) (Kd.R_base2 HO182.out)); replace HO182 := Aside0.mk (hp_); clear hg hw hp_; have hcz27 := bc10 BK191.out) | ((with_reducible refine gate_callee (f := 69) rfl ?_); refine goesL_ (some 30) rfl rfl Try.func69 z4_20 rfl #[.int .i64 (wrap64 (1 + t185))] rfl z4_9 ?_; (with_reducible refine (spec_l05Keyed.calls (wrap64 (1 + t185)) t193 _ A10.out).mono ?_); rintro e w' ⟨rfl, ⟨nd, rfl⟩⟩; refine ⟨_, rfl, ?_⟩))
 (try simp only [Act.put, List.setIfInBounds_toArray, List.set_cons_zero, List.set_cons_succ])
 go_cut [] (fun wc => ∃ (kq : Nat) (x1001_10 : Int) (x1002_10 : Int) (x192006_10 : ByteArray), Aside0 (spec_l05Act.j0 kq s0_0 x1001_10 x1002_10 t173 t174 (wrap64 (1 + t177)) y192 (wrap64 (1 + t185)) t188 x192006_10 0 0 0 = some (r1, r2, r3, r4, r5, r6, r7, r8, r9, r10, r11, r12)) ∧ Aside0 (kq ≤ k) ∧ Aside0 (Kd.R (Kd.int .i64) 3 wc w.heap.size (fun _ => True) (.slice (some ⟨go9, 0, none⟩) t180.length co18) y192) ∧ Aside0 (wc.heap[gb172]? = some (.cells #[.int .i64 0, .int .i64 0, .int .i64 0, (.slice none 0 0), .int .i64 0, .string (⟨#[]⟩ : ByteArray), .string (⟨#[]⟩ : ByteArray), .int .i64 0, .int .i64 0, .int .i64 0] 31 (0, 0))) ∧ Aside0 (wc.heap[gb191]? = some (.cells #[.int .i64 t173, .int .i64 t174, .int .i64 (wrap64 (1 + t177)), (.slice (some ⟨go9, 0, none⟩) t180.length co18), .int .i64 (wrap64 (1 + t185)), .string t188, .string x192006_10, .int .i64 0, .int .i64 0, .int .i64 0] 31 (0, 0))) ∧ Aside0 (IsS74 w0 wc g s0_0 x1001_10 x1002_10) ∧ Aside0 (KeepBut w wc g none) ∧ Aside0 (Below w0.heap.size w0 wc))
 case first =>
  have H := HC11.out
  clear HC11
  by_cases c28 : t193 = true
  rotate_left
  ·
   replace c28 := Bool.eq_false_iff.mpr c28
   subst c28
   rw [if_neg (show ¬ (false = true) by decide)] at H
   have H' := Aside0.mk H
   clear H
   go_wp2
   go_meet
   case rel => exact ⟨_, (t189), (t190), ((⟨#[]⟩ : ByteArray)), H', ⟨by first | omega | exact Nat.le_refl _⟩, ⟨z4_17⟩, ⟨z4_2⟩, ⟨z4_6⟩, ⟨z4_3⟩, ⟨z4_0⟩, ⟨z4_4⟩⟩
  subst c28
  rw [if_pos rfl] at H
  replace H := Option.bind_eq_some_iff.mp H
  obtain ⟨⟨t194, t195, t196⟩, A290, H⟩ := H
  (try dsimp only at H)
  have A29 := Aside0.mk A290
  clear A290
  have H' := Aside0.mk H
  clear H
  go_wp2_with (first | ((with_reducible refine gate_callee (f := 77) rfl ?_); refine goesL_ (some 32) rfl rfl Try.func77 z4_20 rfl #[.pointer (some ⟨g, 0, none⟩)] rfl z4_9 ?_; (with_reducible refine (spec_l05Key.calls g s0_0 t189 t190 t194 t195 t196 w0 _ ?side1 ?side2 A29.out).mono ?_); (case side1 => exact z4_3); (case side2 => exact z4_4); rintro e w30 ⟨rfl, hi, hb, hk⟩; refine ⟨_, rfl, ?_⟩; replace BK172 := kb_ BK172 hk z4_2 NB172_0; replace HO182 := Aside0.mk (Kd.R_mono (Kd.R_keep (IsS74.apart (show IsS74 w0 _ g s0_0 t189 t190 from by repeat (first | (with_reducible first | exact HI0.out | apply IsS74.alloc | apply IsS74.drewN | apply IsS74.drew | apply IsS74.set_1 | apply IsS74.set_2 | refine IsS74.far ?_ NB0_172.out _ | refine IsS74.far ?_ NB0_191.out _) | exact HI0.out)) z4_17 (by decide)) hk (fun _ h => h.2)) (fun _ h => h.1)); replace BK191 := kb_ BK191 hk z4_6 NB191_0; replace HK := Aside0.mk (KeepBut.trans z4_0 hk (.inl rfl)); replace HB := Aside0.mk (hb); replace HI0 := Aside0.mk (hi); have hnb31 := NB191_172.out; have hnc31 := NB172_191.out; have hnb32 := NB191_0.out; have hnc32 := NB0_191.out; have hcz33 := bc10 BK191.out))
  go_meet
  case rel => exact ⟨_, (t195), (t196), (t194), H', ⟨by first | omega | exact Nat.le_refl _⟩, ⟨by (with_reducible repeat (first | apply Kd.R_alloc | apply Kd.R_drewN | apply Kd.R_drew)); exact Kd.R_mono (Kd.R_far (p := ⟨gb191, 6, none⟩) (Kd.R_types HO182.out BK191.out (by decide)) (fun _ hk => by first | exact hk.2 | trivial) (.string t194)) (fun _ hk => trivial)⟩, ⟨by (with_reducible repeat (first | apply blk_far (hp := NB172_191.out) | refine blk_drewN ?_ _ | refine blk_drew ?_ | refine blk_alloc ?_ _)); exact BK172.out⟩, ⟨by (with_reducible repeat (first | apply bp10_6 | refine blk_drewN ?_ _ | refine blk_drew ?_ | refine blk_alloc ?_ _)); exact BK191.out⟩, ⟨z4_3⟩, ⟨z4_0⟩, ⟨z4_4⟩⟩
 case rest =>
  clear HC11
  try clear c2
  try clear p2
  try clear c3
  try clear c5
  try clear c6
  try clear p6
  try clear c7
  try clear c7b0
  try clear c8
  try clear c8b0
  try clear p9
  try clear q9
  try clear hx9
  try clear hf9
  try clear c20
  try clear c21
  try clear c28
  try clear c31
  try clear c32
  try clear hcz22
  try clear hcz24
  try clear hcz27
  try clear hcz33
  try clear hx9_0
  try clear p9
  try clear q9
  obtain ⟨kq, x1001_10, x1002_10, x192006_10, HA, HJ10, HO_192003, BK172, BK191, HI0, HK, HB⟩ := hcut
  have hl192003_10 := (Kd.R_reads' HO_192003.out).1
  rw [hl192003_10] at HO_192003
  (try simp only [hl192003_10])
  (try simp only [hl192003_10] at BK172)
  (try simp only [hl192003_10] at BK191)
  cases kq with
  | zero => exact absurd HA.out (by simp [spec_l05Act.j0])
  | succ kj10 =>
   have H := HA.out
   clear HA
   simp only [spec_l05Act.j0] at H
   replace H := Option.bind_eq_some_iff.mp H
   obtain ⟨t197, A340, H⟩ := H
   (try dsimp only at H)
   have A34 := Aside0.mk A340
   clear A340
   have HC35 := Aside0.mk H
   clear H
   have hnb36 := NB191_172.out
   have hnc36 := NB172_191.out
   have hnb37 := NB191_0.out
   have hnc37 := NB0_191.out
   have hcz38 := bc10 BK191.out
   go_upto_if 36 with (first | ((with_reducible refine gate_callee (f := 70) rfl ?_); refine goesL_ (some 36) rfl rfl Try.func70 z4_20 rfl #[.int .i64 (wrap64 (1 + t185))] rfl z4_9 ?_; (with_reducible refine (spec_l05Valued.calls (wrap64 (1 + t185)) t197 _ A34.out).mono ?_); rintro e w' ⟨rfl, ⟨nd, rfl⟩⟩; refine ⟨_, rfl, ?_⟩))
   (try simp only [Act.put, List.setIfInBounds_toArray, List.set_cons_zero, List.set_cons_succ])
   go_cut [] (fun wc => ∃ (kq : Nat) (x1001_34 : Int) (x1002_34 : Int) (x192007_34 : Int), Aside0 (spec_l05Act.j1 kq s0_0 x1001_34 x1002_34 t173 t174 (wrap64 (1 + t177)) y192 (wrap64 (1 + t185)) t188 x192006_10 x192007_34 0 0 = some (r1, r2, r3, r4, r5, r6, r7, r8, r9, r10, r11, r12)) ∧ Aside0 (kq ≤ kj10) ∧ Aside0 (Kd.R (Kd.int .i64) 3 wc w.heap.size (fun _ => True) (.slice (some ⟨go9, 0, none⟩) y192.length co18) y192) ∧ Aside0 (wc.heap[gb172]? = some (.cells #[.int .i64 0, .int .i64 0, .int .i64 0, (.slice none 0 0), .int .i64 0, .string (⟨#[]⟩ : ByteArray), .string (⟨#[]⟩ : ByteArray), .int .i64 0, .int .i64 0, .int .i64 0] 31 (0, 0))) ∧ Aside0 (wc.heap[gb191]? = some (.cells #[.int .i64 t173, .int .i64 t174, .int .i64 (wrap64 (1 + t177)), (.slice (some ⟨go9, 0, none⟩) y192.length co18), .int .i64 (wrap64 (1 + t185)), .string t188, .string x192006_10, .int .i64 x192007_34, .int .i64 0, .int .i64 0] 31 (0, 0))) ∧ Aside0 (IsS74 w0 wc g s0_0 x1001_34 x1002_34) ∧ Aside0 (KeepBut w wc g none) ∧ Aside0 (Below w0.heap.size w0 wc))
   case first =>
    have H := HC35.out
    clear HC35
    by_cases c39 : t197 = true
    rotate_left
    ·
     replace c39 := Bool.eq_false_iff.mpr c39
     subst c39
     rw [if_neg (show ¬ (false = true) by decide)] at H
     have H' := Aside0.mk H
     clear H
     go_wp2
     go_meet
     case rel => exact ⟨_, (x1001_10), (x1002_10), (0), H', ⟨by have := HJ10.out; first | omega | exact Nat.le_refl _⟩, ⟨by (try simp only [hl192003_10]); (with_reducible repeat (first | apply Kd.R_alloc | apply Kd.R_drewN | apply Kd.R_drew)); exact HO_192003.out⟩, ⟨by (try simp only [hl192003_10]); (with_reducible repeat (first | refine blk_drewN ?_ _ | refine blk_drew ?_ | refine blk_alloc ?_ _)); exact BK172.out⟩, ⟨by (try simp only [hl192003_10]); (with_reducible repeat (first | refine blk_drewN ?_ _ | refine blk_drew ?_ | refine blk_alloc ?_ _)); exact BK191.out⟩, ⟨z4_3⟩, ⟨z4_0⟩, ⟨z4_4⟩⟩
    subst c39
    rw [if_pos rfl] at H
    obtain ⟨y198, hy198⟩ : ∃ y_ : List Int, y_ = (([0, 1, 7, 999999] : List Int)) := ⟨_, rfl⟩
    replace H : ((spec_l01PickInt.f s0_0 x1001_10 x1002_10 y198).bind fun bt201 => (spec_l05Act.j1 kj10 s0_0 bt201.2.1 bt201.2.2 t173 t174 (wrap64 (1 + t177)) y192 (wrap64 (1 + t185)) t188 x192006_10 bt201.1 0 0)) = some (r1, r2, r3, r4, r5, r6, r7, r8, r9, r10, r11, r12) := by first | (rw [hy198]; with_reducible exact H) | (have H2_ := (Option.bind_some _ _).symm.trans H; rw [hy198]; with_reducible exact H2_) | (have H2_ := (Option.bind_some _ _).symm.trans H; with_reducible exact H2_) | with_reducible exact H | (rw [hy198]; exact H) | exact H
    have Ny198 := Aside0.mk hy198
    clear hy198
    replace H := Option.bind_eq_some_iff.mp H
    obtain ⟨⟨t201, t202, t203⟩, A400, H⟩ := H
    (try dsimp only at H)
    have A40 := Aside0.mk A400
    clear A400
    have H' := Aside0.mk H
    clear H
    go_wp2_with (first | ((with_reducible refine gate_dst (N := 38) rfl ?_); refine Kd.R_lit (Kd.int .i64) _ 3 ?hg (N := 38) ?hd (xs := ([0, 1, 7, 999999] : List Int)) (inner := [.int .i64 0, .int .i64 1, .int .i64 7, .int .i64 999999]) (ok := fun _ => True) (okp := fun _ => True) ?hr ?hp (fun _ hk => hk) trivial (Below.refl _ _) (Nat.le_refl _) (by simp) ?_; (case hd => rfl); (case hg => rfl); (case hr => first | (go_simp; done) | (go_simp; rfl)); (case hp => exact (Reps.one (show Kd.M (Kd.int .i64) _ _ _ 0 [.int .i64 0] from rfl) (Reps.one (show Kd.M (Kd.int .i64) _ _ _ 1 [.int .i64 1] from rfl) (Reps.one (show Kd.M (Kd.int .i64) _ _ _ 7 [.int .i64 7] from rfl) (Reps.one (show Kd.M (Kd.int .i64) _ _ _ 999999 [.int .i64 999999] from rfl) (Reps.none _ _)))))); intro v199 w41 ho42 hb hg_ hnew_; clear hg_ hnew_; (first | rw [← Ny198.out] at ho42 | (simp only [Int.reduceToNat] at ho42; rw [← Ny198.out] at ho42)); have HO200 := Aside0.mk (Kd.R_lower (Kd.R_new' ho42 (Kd.R_lt z4_13)) (keep_size (w := w) (g := g) (row := none) z4_0)); replace HO_192003 := Aside0.mk (Kd.R_elder' z4_13 (Kd.R_base ho42) hb); replace BK172 := bb_ BK172 z4_2 hb; replace BK191 := bb_ BK191 z4_6 hb; replace HK := Aside0.mk (KeepBut.trans z4_0 (KeepBut.of_below hb g none) (.inl rfl)); replace HB := Aside0.mk (below_step z4_4 hb); replace HI0 := Aside0.mk (IsS74.below z4_3 hb); clear hb ho42; obtain ⟨Ao43, co43, eo43⟩ := Kd.R_slice HO200.out; subst eo43) | ((with_reducible refine gate_callee (f := 78) rfl ?_); refine goesL_ (some 39) rfl rfl Try.func78 z4_20 rfl #[.pointer (some ⟨g, 0, none⟩), .slice Ao43 y198.length co43] rfl z4_9 ?_; (with_reducible refine (spec_l01PickInt.calls g s0_0 x1001_10 x1002_10 _ _ y198 t201 t202 t203 w0 _ ?side1 ?side2 ?side3 ?side4 ?side5 A40.out).mono ?_); (case side1 => exact z4_3); (case side2 => exact z4_4); (case side3 => repeat (first | exact (Kd.R_reads' HO200.out).2.2 | (with_reducible refine Kd.C_alloc ?_ _) | (with_reducible refine Kd.C_drewN ?_ _) | (with_reducible refine Kd.C_drew ?_))); (case side4 => exact (Kd.R_reads' HO200.out).2.1); (case side5 => exact far_slice (IsS74.own_ne HI0.out HO200.out (by decide))); rintro e w44 ⟨rfl, hi, hb, hk⟩; refine ⟨_, rfl, ?_⟩; replace HO_192003 := Aside0.mk (Kd.R_mono (Kd.R_keep (IsS74.apart (show IsS74 w0 _ g s0_0 x1001_10 x1002_10 from by repeat (first | (with_reducible first | exact HI0.out | apply IsS74.alloc | apply IsS74.drewN | apply IsS74.drew | apply IsS74.set_1 | apply IsS74.set_2 | refine IsS74.far ?_ NB0_172.out _ | refine IsS74.far ?_ NB0_191.out _) | exact HI0.out)) z4_13 (by decide)) hk (fun _ h => h.2)) (fun _ h => h.1)); replace BK172 := kb_ BK172 hk z4_2 NB172_0; replace BK191 := kb_ BK191 hk z4_6 NB191_0; replace HO200 := Aside0.mk (Kd.R_mono (Kd.R_keep (IsS74.apart (show IsS74 w0 _ g s0_0 x1001_10 x1002_10 from by repeat (first | (with_reducible first | exact HI0.out | apply IsS74.alloc | apply IsS74.drewN | apply IsS74.drew | apply IsS74.set_1 | apply IsS74.set_2 | refine IsS74.far ?_ NB0_172.out _ | refine IsS74.far ?_ NB0_191.out _) | exact HI0.out)) (by (with_reducible repeat (first | apply Kd.R_alloc | apply Kd.R_drewN | apply Kd.R_drew)); exact HO200.out) (by decide)) hk (fun _ h => h.2)) (fun _ h => h.1)); replace HK := Aside0.mk (KeepBut.trans z4_0 hk (.inl rfl)); replace HB := Aside0.mk (hb); replace HI0 := Aside0.mk (hi); have hnb45 := NB191_172.out; have hnc45 := NB172_191.out; have hnb46 := NB191_0.out; have hnc46 := NB0_191.out; have hcz47 := bc10 BK191.out))
    go_meet
    case rel => exact ⟨_, (t202), (t203), (t201), H', ⟨by have := HJ10.out; first | omega | exact Nat.le_refl _⟩, ⟨by (try simp only [hl192003_10]); (with_reducible repeat (first | apply Kd.R_alloc | apply Kd.R_drewN | apply Kd.R_drew)); exact Kd.R_mono (Kd.R_far (p := ⟨gb191, 7, none⟩) (Kd.R_types HO_192003.out BK191.out (by decide)) (fun _ hk => by first | exact hk.2 | trivial) (.int .i64 t201)) (fun _ hk => trivial)⟩, ⟨by (try simp only [hl192003_10]); (with_reducible repeat (first | apply blk_far (hp := NB172_191.out) | refine blk_drewN ?_ _ | refine blk_drew ?_ | refine blk_alloc ?_ _)); exact BK172.out⟩, ⟨by (try simp only [hl192003_10]); (with_reducible repeat (first | apply bp10_7 | refine blk_drewN ?_ _ | refine blk_drew ?_ | refine blk_alloc ?_ _)); exact BK191.out⟩, ⟨z4_3⟩, ⟨z4_0⟩, ⟨z4_4⟩⟩
   case rest =>
    clear HC35
    try clear c2
    try clear p2
    try clear c3
    try clear c4
    try clear c5
    try clear c6
    try clear p6
    try clear c7
    try clear c7b0
    try clear c8
    try clear c8b0
    try clear p9
    try clear q9
    try clear hx9
    try clear hf9
    try clear c20
    try clear c21
    try clear c28
    try clear c31
    try clear c32
    try clear c34
    try clear c36
    try clear c37
    try clear c39
    try clear c45
    try clear c46
    try clear hcz22
    try clear hcz24
    try clear hcz27
    try clear hcz33
    try clear hcz38
    try clear hcz47
    try clear hx9_0
    try clear p2
    try clear p6
    try clear p9
    try clear q9
    obtain ⟨kq, x1001_34, x1002_34, x192007_34, HA, HJ34, HO_192003, BK172, BK191, HI0, HK, HB⟩ := hcut
    cases kq with
    | zero => exact absurd HA.out (by simp [spec_l05Act.j1])
    | succ kj34 =>
     have H := HA.out
     clear HA
     simp only [spec_l05Act.j1] at H
     by_cases c48 : (wrap64 (1 + t185)) ≥ 6
     rotate_left
     ·
      rw [if_neg c48] at H
      have c48b0 : decide (6 ≤ (wrap64 (1 + t185))) = false := decide_eq_false c48
      clear c48
      simp only [Option.some.injEq, Prod.mk.injEq] at H
      obtain ⟨rfl, rfl, rfl, rfl, rfl, rfl, rfl, rfl, rfl, rfl, rfl, rfl⟩ := H
      have hnb96 := NB191_172.out
      have hnc96 := NB172_191.out
      have hnb97 := NB191_0.out
      have hnc97 := NB0_191.out
      have hcz98 := bc10 BK191.out
      have hnb99 := NB172_0.out
      have hnc99 := NB0_172.out
      have hcz100 := bc10 BK172.out
      go_wp2
      refine bodyPost_ret (results_cell_row rfl _ _ gb172 31 #[.int .i64 t173, .int .i64 t174, .int .i64 (wrap64 (1 + t177)), .slice (some ⟨go9, 0, none⟩) y192.length co18, .int .i64 (wrap64 (1 + t185)), .string t188, .string x192006_10, .int .i64 x192007_34, .int .i64 0, .int .i64 0] (0, 0) _ rfl z4_1 Try.underlying31 rfl z4_20) rfl ?_
      exact ⟨_, z4_19, z4_10, z4_3, z4_4, z4_0⟩
     rw [if_pos c48] at H
     have c48b0 : decide (6 ≤ (wrap64 (1 + t185))) = true := decide_eq_true c48
     clear c48
     replace H := Option.bind_eq_some_iff.mp H
     obtain ⟨⟨t204, t205, t206, t207⟩, A490, H⟩ := H
     (try dsimp only at H)
     have A49 := Aside0.mk A490
     clear A490
     replace H := Option.bind_eq_some_iff.mp H
     obtain ⟨t209, A500, H⟩ := H
     (try dsimp only at H)
     have A50 := Aside0.mk A500
     clear A500
     by_cases c51 : t209 = true
     ·
      subst c51
      rw [if_pos rfl] at H
      simp only [Option.some.injEq, Prod.mk.injEq] at H
      obtain ⟨rfl, rfl, rfl, rfl, rfl, rfl, rfl, rfl, rfl, rfl, rfl, rfl⟩ := H
      have hnb52 := NB191_172.out
      have hnc52 := NB172_191.out
      have hnb53 := NB191_0.out
      have hnc53 := NB0_191.out
      have hcz54 := bc10 BK191.out
      go_wp2_with (first | ((with_reducible refine gate_callee (f := 74) rfl ?_); refine goesL_ (some 45) rfl rfl Try.func74 z4_20 rfl #[.pointer (some ⟨g, 0, none⟩)] rfl z4_9 ?_; (with_reducible refine (spec_l04Dot.calls g s0_0 x1001_34 x1002_34 t204 t205 t206 t207 w0 _ ?side1 ?side2 A49.out).mono ?_); (case side1 => exact z4_3); (case side2 => exact z4_4); rintro e w55 ⟨rfl, hi, hb, hk⟩; refine ⟨_, rfl, ?_⟩; replace HO_192003 := Aside0.mk (Kd.R_mono (Kd.R_keep (IsS74.apart (show IsS74 w0 _ g s0_0 x1001_34 x1002_34 from by repeat (first | (with_reducible first | exact HI0.out | apply IsS74.alloc | apply IsS74.drewN | apply IsS74.drew | apply IsS74.set_1 | apply IsS74.set_2 | refine IsS74.far ?_ NB0_172.out _ | refine IsS74.far ?_ NB0_191.out _) | exact HI0.out)) z4_13 (by decide)) hk (fun _ h => h.2)) (fun _ h => h.1)); replace BK172 := kb_ BK172 hk z4_2 NB172_0; replace BK191 := kb_ BK191 hk z4_6 NB191_0; replace HK := Aside0.mk (KeepBut.trans z4_0 hk (.inl rfl)); replace HB := Aside0.mk (hb); replace HI0 := Aside0.mk (hi)) | ((with_reducible refine gate_dst (N := 4) rfl ?_); refine box_event ?hg (N := 4) ?hd (cs := #[.int .i64 0, .int .i64 0]) (t := 28) ?hr ?_; (case hd => rfl); (case hg => rfl); (case hr => first | (go_simp; done) | (go_simp; rfl)); intro gb208 hg w56 hbox hb; replace HO_192003 := Aside0.mk (Kd.R_below z4_13 hb); replace HB := Aside0.mk (below_step z4_4 hb); have BK208 := Aside0.mk (hbox); have GW208 := Aside0.mk ((by rw [hg]; exact (keep_size (w := w) (g := g) (row := none) z4_0) : w.heap.size ≤ gb208)); have GE208 := Aside0.mk ((Nat.le_trans HW0.out (by rw [hg]; exact (keep_size (w := w) (g := g) (row := none) z4_0) : w.heap.size ≤ gb208) : w0.heap.size ≤ gb208)); replace HK := Aside0.mk (KeepBut.trans z4_0 (KeepBut.of_below hb g none) (.inl rfl)); have NB172_208 := nb_ BK172 z4_2 hg; have NB208_172 := nc_ BK172 z4_2 hg; replace BK172 := bb_ BK172 z4_2 hb; have NB191_208 := nb_ BK191 z4_6 hg; have NB208_191 := nc_ BK191 z4_6 hg; replace BK191 := bb_ BK191 z4_6 hb; have NB0_208 := Aside0.mk ((by rw [hg]; exact Nat.ne_of_lt (IsS74.lt (show IsS74 w0 _ g s0_0 t206 t207 from by repeat (first | (with_reducible first | exact HI0.out | apply IsS74.alloc | apply IsS74.drewN | apply IsS74.drew | apply IsS74.set_1 | apply IsS74.set_2 | refine IsS74.far ?_ NB0_172.out _ | refine IsS74.far ?_ NB0_191.out _) | exact HI0.out))) : g ≠ gb208)); have NB208_0 := Aside0.mk ((by rw [hg]; exact Nat.ne_of_gt (IsS74.lt (show IsS74 w0 _ g s0_0 t206 t207 from by repeat (first | (with_reducible first | exact HI0.out | apply IsS74.alloc | apply IsS74.drewN | apply IsS74.drew | apply IsS74.set_1 | apply IsS74.set_2 | refine IsS74.far ?_ NB0_172.out _ | refine IsS74.far ?_ NB0_191.out _) | exact HI0.out))) : gb208 ≠ g)); replace HI0 := Aside0.mk (IsS74.below z4_3 hb); clear hb hbox hg; have hnb57 := NB208_172.out; have hnc57 := NB172_208.out; have hnb58 := NB208_191.out; have hnc58 := NB191_208.out; have hnb59 := NB208_0.out; have hnc59 := NB0_208.out; have hcz60 := bc2 BK208.out; have hcz61 := bc10 BK191.out) | ((with_reducible refine gate_callee (f := 45) rfl ?_); refine goesL_ (some 49) rfl rfl Try.func45 z4_20 rfl #[.slice (some ⟨go9, 0, none⟩) y192.length co18, .agg #[.int .i64 t204, .int .i64 t205]] rfl z4_9 ?_; (with_reducible refine (spec_Knows.calls kj34 _ _ y192 t204 t205 true _ ?side1 ?side2 A50.out).mono ?_); (case side1 => exact z4_26); (case side2 => exact (Kd.R_reads' HO_192003.out).2.1); rintro e w62 ⟨rfl, hb⟩; refine ⟨_, rfl, ?_⟩; replace HO_192003 := Aside0.mk (Kd.R_below z4_5 hb); replace BK172 := bb_ BK172 z4_15 hb; replace BK191 := bb_ BK191 z4_14 hb; replace BK208 := Aside0.mk (blk_below (g := gb208) (o := .cells #[.int .i64 t204, .int .i64 t205] 28 (0, 0)) z4_12 hb); replace HK := Aside0.mk (KeepBut.trans z4_11 (KeepBut.of_below hb g none) (.inl rfl)); replace HB := Aside0.mk (below_step z4_8 hb); replace HI0 := Aside0.mk (IsS74.below (show IsS74 w0 ((w56.setCell ⟨gb208, 0, none⟩ (.int .i64 t204)).setCell ⟨gb208, 1, none⟩ (.int .i64 t205)) g s0_0 t206 t207 from by repeat (first | (with_reducible first | exact HI0.out | apply IsS74.alloc | apply IsS74.drewN | apply IsS74.drew | apply IsS74.set_1 | apply IsS74.set_2 | refine IsS74.far ?_ NB0_172.out _ | refine IsS74.far ?_ NB0_191.out _ | refine IsS74.far ?_ NB0_208.out _) | exact HI0.out)) hb); have hcz63 := bc2 BK208.out; have hcz64 := bc10 BK191.out; have hnb65 := NB172_0.out; have hnc65 := NB0_172.out; have hcz66 := bc10 BK172.out))
      refine bodyPost_ret (results_cell_row rfl _ _ gb172 31 #[.int .i64 t173, .int .i64 t174, .int .i64 (wrap64 (1 + t177)), .slice (some ⟨go9, 0, none⟩) y192.length co18, .int .i64 (wrap64 (1 + t185)), .string t188, .string x192006_10, .int .i64 x192007_34, .int .i64 t204, .int .i64 t205] (0, 0) _ rfl (by (with_reducible repeat (first | apply bpa10 | apply blk_far (hp := NB172_191.out) | refine blk_drewN ?_ _ | refine blk_drew ?_ | refine blk_alloc ?_ _)); exact BK172.out) Try.underlying31 rfl z4_20) rfl ?_
      exact ⟨_, z4_19, by (with_reducible repeat (first | apply Kd.R_alloc | apply Kd.R_drewN | apply Kd.R_drew)); apply Kd.R_mono; (with_reducible repeat (first | apply Kd.R_far | apply Kd.R_alloc | apply Kd.R_drewN | apply Kd.R_drew)); exact Kd.R_types (Kd.R_types HO_192003.out BK191.out (by decide)) BK172.out (by decide); all_goals (intro _ hk; first | exact trivial | exact hk.2 | trivial | exact hk.1.2), z4_16, z4_8, z4_11⟩
     replace c51 := Bool.eq_false_iff.mpr c51
     subst c51
     rw [if_neg (show ¬ (false = true) by decide)] at H
     by_cases c67 : (wrap64 (1 + t185)) = 7
     rotate_left
     ·
      rw [if_neg c67] at H
      have c67b0 : ((wrap64 (1 + t185)) == 7) = false := beq_eq_false_iff_ne.mpr c67
      have c67b1 : ((wrap64 (1 + t185)) != 7) = true := bne_iff_ne.mpr c67
      simp only [Option.some.injEq, Prod.mk.injEq] at H
      obtain ⟨rfl, rfl, rfl, rfl, rfl, rfl, rfl, rfl, rfl, rfl, rfl, rfl⟩ := H
      have hnb82 := NB191_172.out
      have hnc82 := NB172_191.out
      have hnb83 := NB191_0.out
      have hnc83 := NB0_191.out
      have hcz84 := bc10 BK191.out
      go_wp2_with (first | ((with_reducible refine gate_callee (f := 74) rfl ?_); refine goesL_ (some 45) rfl rfl Try.func74 z4_20 rfl #[.pointer (some ⟨g, 0, none⟩)] rfl z4_9 ?_; (with_reducible refine (spec_l04Dot.calls g s0_0 x1001_34 x1002_34 t204 t205 t206 t207 w0 _ ?side1 ?side2 A49.out).mono ?_); (case side1 => exact z4_3); (case side2 => exact z4_4); rintro e w85 ⟨rfl, hi, hb, hk⟩; refine ⟨_, rfl, ?_⟩; replace HO_192003 := Aside0.mk (Kd.R_mono (Kd.R_keep (IsS74.apart (show IsS74 w0 _ g s0_0 x1001_34 x1002_34 from by repeat (first | (with_reducible first | exact HI0.out | apply IsS74.alloc | apply IsS74.drewN | apply IsS74.drew | apply IsS74.set_1 | apply IsS74.set_2 | refine IsS74.far ?_ NB0_172.out _ | refine IsS74.far ?_ NB0_191.out _) | exact HI0.out)) z4_13 (by decide)) hk (fun _ h => h.2)) (fun _ h => h.1)); replace BK172 := kb_ BK172 hk z4_2 NB172_0; replace BK191 := kb_ BK191 hk z4_6 NB191_0; replace HK := Aside0.mk (KeepBut.trans z4_0 hk (.inl rfl)); replace HB := Aside0.mk (hb); replace HI0 := Aside0.mk (hi)) | ((with_reducible refine gate_dst (N := 4) rfl ?_); refine box_event ?hg (N := 4) ?hd (cs := #[.int .i64 0, .int .i64 0]) (t := 28) ?hr ?_; (case hd => rfl); (case hg => rfl); (case hr => first | (go_simp; done) | (go_simp; rfl)); intro gb208 hg w86 hbox hb; replace HO_192003 := Aside0.mk (Kd.R_below z4_13 hb); replace HB := Aside0.mk (below_step z4_4 hb); have BK208 := Aside0.mk (hbox); have GW208 := Aside0.mk ((by rw [hg]; exact (keep_size (w := w) (g := g) (row := none) z4_0) : w.heap.size ≤ gb208)); have GE208 := Aside0.mk ((Nat.le_trans HW0.out (by rw [hg]; exact (keep_size (w := w) (g := g) (row := none) z4_0) : w.heap.size ≤ gb208) : w0.heap.size ≤ gb208)); replace HK := Aside0.mk (KeepBut.trans z4_0 (KeepBut.of_below hb g none) (.inl rfl)); have NB172_208 := nb_ BK172 z4_2 hg; have NB208_172 := nc_ BK172 z4_2 hg; replace BK172 := bb_ BK172 z4_2 hb; have NB191_208 := nb_ BK191 z4_6 hg; have NB208_191 := nc_ BK191 z4_6 hg; replace BK191 := bb_ BK191 z4_6 hb; have NB0_208 := Aside0.mk ((by rw [hg]; exact Nat.ne_of_lt (IsS74.lt (show IsS74 w0 _ g s0_0 t206 t207 from by repeat (first | (with_reducible first | exact HI0.out | apply IsS74.alloc | apply IsS74.drewN | apply IsS74.drew | apply IsS74.set_1 | apply IsS74.set_2 | refine IsS74.far ?_ NB0_172.out _ | refine IsS74.far ?_ NB0_191.out _) | exact HI0.out))) : g ≠ gb208)); have NB208_0 := Aside0.mk ((by rw [hg]; exact Nat.ne_of_gt (IsS74.lt (show IsS74 w0 _ g s0_0 t206 t207 from by repeat (first | (with_reducible first | exact HI0.out | apply IsS74.alloc | apply IsS74.drewN | apply IsS74.drew | apply IsS74.set_1 | apply IsS74.set_2 | refine IsS74.far ?_ NB0_172.out _ | refine IsS74.far ?_ NB0_191.out _) | exact HI0.out))) : gb208 ≠ g)); replace HI0 := Aside0.mk (IsS74.below z4_3 hb); clear hb hbox hg; have hnb87 := NB208_172.out; have hnc87 := NB172_208.out; have hnb88 := NB208_191.out; have hnc88 := NB191_208.out; have hnb89 := NB208_0.out; have hnc89 := NB0_208.out; have hcz90 := bc2 BK208.out; have hcz91 := bc10 BK191.out) | ((with_reducible refine gate_callee (f := 45) rfl ?_); refine goesL_ (some 49) rfl rfl Try.func45 z4_20 rfl #[.slice (some ⟨go9, 0, none⟩) y192.length co18, .agg #[.int .i64 t204, .int .i64 t205]] rfl z4_9 ?_; (with_reducible refine (spec_Knows.calls kj34 _ _ y192 t204 t205 false _ ?side1 ?side2 A50.out).mono ?_); (case side1 => exact z4_26); (case side2 => exact (Kd.R_reads' HO_192003.out).2.1); rintro e w92 ⟨rfl, hb⟩; refine ⟨_, rfl, ?_⟩; replace HO_192003 := Aside0.mk (Kd.R_below z4_5 hb); replace BK172 := bb_ BK172 z4_15 hb; replace BK191 := bb_ BK191 z4_14 hb; replace BK208 := Aside0.mk (blk_below (g := gb208) (o := .cells #[.int .i64 t204, .int .i64 t205] 28 (0, 0)) z4_12 hb); replace HK := Aside0.mk (KeepBut.trans z4_11 (KeepBut.of_below hb g none) (.inl rfl)); replace HB := Aside0.mk (below_step z4_8 hb); replace HI0 := Aside0.mk (IsS74.below (show IsS74 w0 ((w86.setCell ⟨gb208, 0, none⟩ (.int .i64 t204)).setCell ⟨gb208, 1, none⟩ (.int .i64 t205)) g s0_0 t206 t207 from by repeat (first | (with_reducible first | exact HI0.out | apply IsS74.alloc | apply IsS74.drewN | apply IsS74.drew | apply IsS74.set_1 | apply IsS74.set_2 | refine IsS74.far ?_ NB0_172.out _ | refine IsS74.far ?_ NB0_191.out _ | refine IsS74.far ?_ NB0_208.out _) | exact HI0.out)) hb); have hcz93 := bc10 BK191.out; have hnb94 := NB172_0.out; have hnc94 := NB0_172.out; have hcz95 := bc10 BK172.out))
      refine bodyPost_ret (results_cell_row rfl _ _ gb172 31 #[.int .i64 t173, .int .i64 t174, .int .i64 (wrap64 (1 + t177)), .slice (some ⟨go9, 0, none⟩) y192.length co18, .int .i64 (wrap64 (1 + t185)), .string t188, .string x192006_10, .int .i64 x192007_34, .int .i64 0, .int .i64 0] (0, 0) _ rfl z4_1 Try.underlying31 rfl z4_20) rfl ?_
      exact ⟨_, z4_19, z4_10, z4_16, z4_8, z4_11⟩
     rw [if_pos c67] at H
     have c67b0 : ((wrap64 (1 + t185)) == 7) = true := beq_iff_eq.mpr c67
     have c67b1 : ((wrap64 (1 + t185)) != 7) = false := bne_eq_false_iff_eq.mpr c67
     clear c67
     simp only [Option.some.injEq, Prod.mk.injEq] at H
     obtain ⟨rfl, rfl, rfl, rfl, rfl, rfl, rfl, rfl, rfl, rfl, rfl, rfl⟩ := H
     have hnb68 := NB191_172.out
     have hnc68 := NB172_191.out
     have hnb69 := NB191_0.out
     have hnc69 := NB0_191.out
     have hcz70 := bc10 BK191.out
     go_wp2_with (first | ((with_reducible refine gate_callee (f := 74) rfl ?_); refine goesL_ (some 45) rfl rfl Try.func74 z4_20 rfl #[.pointer (some ⟨g, 0, none⟩)] rfl z4_9 ?_; (with_reducible refine (spec_l04Dot.calls g s0_0 x1001_34 x1002_34 t204 t205 t206 t207 w0 _ ?side1 ?side2 A49.out).mono ?_); (case side1 => exact z4_3); (case side2 => exact z4_4); rintro e w71 ⟨rfl, hi, hb, hk⟩; refine ⟨_, rfl, ?_⟩; replace HO_192003 := Aside0.mk (Kd.R_mono (Kd.R_keep (IsS74.apart (show IsS74 w0 _ g s0_0 x1001_34 x1002_34 from by repeat (first | (with_reducible first | exact HI0.out | apply IsS74.alloc | apply IsS74.drewN | apply IsS74.drew | apply IsS74.set_1 | apply IsS74.set_2 | refine IsS74.far ?_ NB0_172.out _ | refine IsS74.far ?_ NB0_191.out _) | exact HI0.out)) z4_13 (by decide)) hk (fun _ h => h.2)) (fun _ h => h.1)); replace BK172 := kb_ BK172 hk z4_2 NB172_0; replace BK191 := kb_ BK191 hk z4_6 NB191_0; replace HK := Aside0.mk (KeepBut.trans z4_0 hk (.inl rfl)); replace HB := Aside0.mk (hb); replace HI0 := Aside0.mk (hi)) | ((with_reducible refine gate_dst (N := 4) rfl ?_); refine box_event ?hg (N := 4) ?hd (cs := #[.int .i64 0, .int .i64 0]) (t := 28) ?hr ?_; (case hd => rfl); (case hg => rfl); (case hr => first | (go_simp; done) | (go_simp; rfl)); intro gb208 hg w72 hbox hb; replace HO_192003 := Aside0.mk (Kd.R_below z4_13 hb); replace HB := Aside0.mk (below_step z4_4 hb); have BK208 := Aside0.mk (hbox); have GW208 := Aside0.mk ((by rw [hg]; exact (keep_size (w := w) (g := g) (row := none) z4_0) : w.heap.size ≤ gb208)); have GE208 := Aside0.mk ((Nat.le_trans HW0.out (by rw [hg]; exact (keep_size (w := w) (g := g) (row := none) z4_0) : w.heap.size ≤ gb208) : w0.heap.size ≤ gb208)); replace HK := Aside0.mk (KeepBut.trans z4_0 (KeepBut.of_below hb g none) (.inl rfl)); have NB172_208 := nb_ BK172 z4_2 hg; have NB208_172 := nc_ BK172 z4_2 hg; replace BK172 := bb_ BK172 z4_2 hb; have NB191_208 := nb_ BK191 z4_6 hg; have NB208_191 := nc_ BK191 z4_6 hg; replace BK191 := bb_ BK191 z4_6 hb; have NB0_208 := Aside0.mk ((by rw [hg]; exact Nat.ne_of_lt (IsS74.lt (show IsS74 w0 _ g s0_0 t206 t207 from by repeat (first | (with_reducible first | exact HI0.out | apply IsS74.alloc | apply IsS74.drewN | apply IsS74.drew | apply IsS74.set_1 | apply IsS74.set_2 | refine IsS74.far ?_ NB0_172.out _ | refine IsS74.far ?_ NB0_191.out _) | exact HI0.out))) : g ≠ gb208)); have NB208_0 := Aside0.mk ((by rw [hg]; exact Nat.ne_of_gt (IsS74.lt (show IsS74 w0 _ g s0_0 t206 t207 from by repeat (first | (with_reducible first | exact HI0.out | apply IsS74.alloc | apply IsS74.drewN | apply IsS74.drew | apply IsS74.set_1 | apply IsS74.set_2 | refine IsS74.far ?_ NB0_172.out _ | refine IsS74.far ?_ NB0_191.out _) | exact HI0.out))) : gb208 ≠ g)); replace HI0 := Aside0.mk (IsS74.below z4_3 hb); clear hb hbox hg; have hnb73 := NB208_172.out; have hnc73 := NB172_208.out; have hnb74 := NB208_191.out; have hnc74 := NB191_208.out; have hnb75 := NB208_0.out; have hnc75 := NB0_208.out; have hcz76 := bc2 BK208.out; have hcz77 := bc10 BK191.out) | ((with_reducible refine gate_callee (f := 45) rfl ?_); refine goesL_ (some 49) rfl rfl Try.func45 z4_20 rfl #[.slice (some ⟨go9, 0, none⟩) y192.length co18, .agg #[.int .i64 t204, .int .i64 t205]] rfl z4_9 ?_; (with_reducible refine (spec_Knows.calls kj34 _ _ y192 t204 t205 false _ ?side1 ?side2 A50.out).mono ?_); (case side1 => exact z4_26); (case side2 => exact (Kd.R_reads' HO_192003.out).2.1); rintro e w78 ⟨rfl, hb⟩; refine ⟨_, rfl, ?_⟩; replace HO_192003 := Aside0.mk (Kd.R_below z4_5 hb); replace BK172 := bb_ BK172 z4_15 hb; replace BK191 := bb_ BK191 z4_14 hb; replace BK208 := Aside0.mk (blk_below (g := gb208) (o := .cells #[.int .i64 t204, .int .i64 t205] 28 (0, 0)) z4_12 hb); replace HK := Aside0.mk (KeepBut.trans z4_11 (KeepBut.of_below hb g none) (.inl rfl)); replace HB := Aside0.mk (below_step z4_8 hb); replace HI0 := Aside0.mk (IsS74.below (show IsS74 w0 ((w72.setCell ⟨gb208, 0, none⟩ (.int .i64 t204)).setCell ⟨gb208, 1, none⟩ (.int .i64 t205)) g s0_0 t206 t207 from by repeat (first | (with_reducible first | exact HI0.out | apply IsS74.alloc | apply IsS74.drewN | apply IsS74.drew | apply IsS74.set_1 | apply IsS74.set_2 | refine IsS74.far ?_ NB0_172.out _ | refine IsS74.far ?_ NB0_191.out _ | refine IsS74.far ?_ NB0_208.out _) | exact HI0.out)) hb); have hcz79 := bc10 BK191.out; have hnb80 := NB172_0.out; have hnc80 := NB0_172.out; have hcz81 := bc10 BK172.out))
     refine bodyPost_ret (results_cell_row rfl _ _ gb172 31 #[.int .i64 t173, .int .i64 t174, .int .i64 (wrap64 (1 + t177)), .slice (some ⟨go9, 0, none⟩) y192.length co18, .int .i64 6, .string t188, .string x192006_10, .int .i64 x192007_34, .int .i64 0, .int .i64 0] (0, 0) _ rfl (by (with_reducible repeat (first | apply bpa10 | apply blk_far (hp := NB172_191.out) | refine blk_drewN ?_ _ | refine blk_drew ?_ | refine blk_alloc ?_ _)); exact BK172.out) Try.underlying31 rfl z4_20) rfl ?_
     exact ⟨_, z4_19, by (with_reducible repeat (first | apply Kd.R_alloc | apply Kd.R_drewN | apply Kd.R_drew)); apply Kd.R_mono; (with_reducible repeat (first | apply Kd.R_far | apply Kd.R_alloc | apply Kd.R_drewN | apply Kd.R_drew)); exact Kd.R_types (Kd.R_types HO_192003.out BK191.out (by decide)) BK172.out (by decide); all_goals (intro _ hk; first | exact trivial | exact hk.2 | trivial | exact hk.1.2), z4_16, z4_8, z4_11⟩
end Go.Proofs.Ythajpckfodhhpaa.QRA
