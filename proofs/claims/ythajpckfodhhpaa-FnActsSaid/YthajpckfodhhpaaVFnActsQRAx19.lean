/- What the functions behind RA compute, and that the program's calls come to just that. Written by a program of this session on the base of the kit's print. No condition. -/
import Derived.Test.YthajpckfodhhpaaVFnActsShort
import Derived.Test.YthajpckfodhhpaaVFnActsQRAx0
import Derived.Test.YthajpckfodhhpaaVFnActsQRAx2
import Derived.Test.YthajpckfodhhpaaVFnActsQRAx15
import Derived.Test.YthajpckfodhhpaaVFnActsQRAx18
namespace Go.Proofs.Ythajpckfodhhpaa.QRA
open Go.RowKit Go.Proofs.Ythajpckfodhhpaa.Short Go.Proofs.YthajpckfodhhpaaW.PrintWords Go.Proofs.YthajpckfodhhpaaW.PrintLast Go.Proofs.YthajpckfodhhpaaW.PrintMore
attribute [local go_sem] max2_int min2_int max_two min_two max_three min_three max_four min_four   -- for this text's walks alone
set_option linter.unusedVariables false
set_option linter.unusedSimpArgs false
theorem z19_26 {P : Prop} (h : P := by repeat (first | (with_reducible first | exact HB.out | apply below_alloc | apply pw_below_drewN | apply below_drew1) | exact HB.out)) : P := h
theorem z19_25 {P : Prop} (h : P := by (with_reducible repeat (first | apply Kd.R_alloc | apply Kd.R_drewN | apply Kd.R_drew)); exact HO594.out) : P := h
theorem z19_24 {P : Prop} (h : P := by (with_reducible repeat (first | refine blk_drewN ?_ _ | refine blk_drew ?_ | refine blk_alloc ?_ _)); exact BK549.out) : P := h
theorem z19_23 {P : Prop} (h : P := by (with_reducible repeat (first | refine blk_drewN ?_ _ | refine blk_drew ?_ | refine blk_alloc ?_ _)); exact BK588.out) : P := h
theorem z19_22 {P : Prop} (h : P := by first | exact Kd.R_nil _ _ _ _ _ | exact Kd.N_nil _ _ _ _ _ | exact Kd.V_nil _ _ _ _ _ | exact Kd.Q_nil _ _ _ _ _ | exact Kd.S_nil _ _ _ _ _) : P := h
theorem z19_21 {P : Prop} (h : P := by repeat (first | (with_reducible first | exact HK.out | apply KeepBut.set_ | apply keep_drewN | apply keep_drew | apply keep_alloc | refine keep_far ?_ GW549.out _) | exact HK.out)) : P := h
theorem z19_20 {P : Prop} (h : P := by kernel_rfl) : P := h
theorem z19_19 {P : Prop} (h : P := by repeat (first | (with_reducible first | exact HI588.out | apply IsS61.alloc | apply IsS61.drewN | apply IsS61.drew | apply IsS61.set_0 | apply IsS61.set_1 | apply IsS61.set_2 | refine IsS61.far ?_ NB588_587.out _) | exact HI588.out)) : P := h
theorem z19_18 {P : Prop} (h : P := by first | rfl | (simp [errW_none, errW_some] <;> rfl) | (simp [*, errW_none, errW_some] <;> rfl)) : P := h
theorem z19_17 {P : Prop} (h : P := by repeat (first | (with_reducible first | exact HB.out | apply below_alloc | apply pw_below_drewN | apply below_drew1 | refine below_set ?_ (IsS61.ge HI0.out)) | exact HB.out)) : P := h
theorem z19_16 {P : Prop} (h : P := by repeat (first | (with_reducible first | exact HI0.out | apply IsS61.alloc | apply IsS61.drewN | apply IsS61.drew | apply IsS61.set_0 | apply IsS61.set_1 | apply IsS61.set_2) | exact HI0.out)) : P := h
theorem z19_15 {P : Prop} (h : P := by intro w'; go_simp; with_reducible rfl) : P := h
theorem z19_14 {P : Prop} (h : P := by (with_reducible repeat (first | apply Kd.R_alloc | apply Kd.R_drewN | apply Kd.R_drew)); exact (Kd.R_mono (Kd.R_far (p := ⟨gb604, 9, none⟩) (Kd.R_far (p := ⟨gb604, 8, none⟩) (Kd.R_far (p := ⟨gb604, 7, none⟩) (Kd.R_far (p := ⟨gb604, 6, none⟩) (Kd.R_far (p := ⟨gb604, 5, none⟩) (Kd.R_far (p := ⟨gb604, 4, none⟩) (Kd.R_far (p := ⟨gb604, 3, none⟩) (Kd.R_far (p := ⟨gb604, 2, none⟩) (Kd.R_far (p := ⟨gb604, 1, none⟩) (Kd.R_far (p := ⟨gb604, 0, none⟩) (Kd.R_types HO594.out BK604.out (by decide)) (fun _ hk => by first | exact hk.2 | trivial) (.int .i64 t589)) (fun _ hk => by first | exact hk.2 | trivial) (.int .i64 t590)) (fun _ hk => by first | exact hk.2 | trivial) (.int .i64 t591)) (fun _ hk => by first | exact hk.2 | trivial) (.slice Ao17 t592.length co17)) (fun _ hk => by first | exact hk.2 | trivial) (.int .i64 t595)) (fun _ hk => by first | exact hk.2 | trivial) (.string t596)) (fun _ hk => by first | exact hk.2 | trivial) (.string t597)) (fun _ hk => by first | exact hk.2 | trivial) (.int .i64 t598)) (fun _ hk => by first | exact hk.2 | trivial) (.int .i64 t599)) (fun _ hk => by first | exact hk.2 | trivial) (.int .i64 t600)) (fun _ h_ => h_.1))) : P := h
theorem z19_13 {P : Prop} (h : P := by (with_reducible repeat (first | apply Kd.R_alloc | apply Kd.R_drewN | apply Kd.R_drew)); exact (Kd.R_mono (Kd.R_far (p := ⟨gb604, 9, none⟩) (Kd.R_far (p := ⟨gb604, 8, none⟩) (Kd.R_far (p := ⟨gb604, 7, none⟩) (Kd.R_far (p := ⟨gb604, 6, none⟩) (Kd.R_far (p := ⟨gb604, 5, none⟩) (Kd.R_far (p := ⟨gb604, 4, none⟩) (Kd.R_far (p := ⟨gb604, 3, none⟩) (Kd.R_far (p := ⟨gb604, 2, none⟩) (Kd.R_far (p := ⟨gb604, 1, none⟩) (Kd.R_far (p := ⟨gb604, 0, none⟩) (Kd.R_types HO594.out BK604.out (by decide)) (fun _ hk => by first | exact hk.2 | trivial) (.int .i64 t589)) (fun _ hk => by first | exact hk.2 | trivial) (.int .i64 t590)) (fun _ hk => by first | exact hk.2 | trivial) (.int .i64 t591)) (fun _ hk => by first | exact hk.2 | trivial) (.slice Ao33 t592.length co33)) (fun _ hk => by first | exact hk.2 | trivial) (.int .i64 t595)) (fun _ hk => by first | exact hk.2 | trivial) (.string t596)) (fun _ hk => by first | exact hk.2 | trivial) (.string t597)) (fun _ hk => by first | exact hk.2 | trivial) (.int .i64 t598)) (fun _ hk => by first | exact hk.2 | trivial) (.int .i64 t599)) (fun _ hk => by first | exact hk.2 | trivial) (.int .i64 t600)) (fun _ h_ => h_.1))) : P := h
theorem z19_12 {P : Prop} (h : P := by (with_reducible repeat (first | apply Kd.R_alloc | apply Kd.R_drewN | apply Kd.R_drew)); exact (Kd.R_mono (Kd.R_far (p := ⟨gb604, 9, none⟩) (Kd.R_far (p := ⟨gb604, 8, none⟩) (Kd.R_far (p := ⟨gb604, 7, none⟩) (Kd.R_far (p := ⟨gb604, 6, none⟩) (Kd.R_far (p := ⟨gb604, 5, none⟩) (Kd.R_far (p := ⟨gb604, 4, none⟩) (Kd.R_far (p := ⟨gb604, 3, none⟩) (Kd.R_far (p := ⟨gb604, 2, none⟩) (Kd.R_far (p := ⟨gb604, 1, none⟩) (Kd.R_far (p := ⟨gb604, 0, none⟩) (Kd.R_types HO594.out BK604.out (by decide)) (fun _ hk => by first | exact hk.2 | trivial) (.int .i64 t589)) (fun _ hk => by first | exact hk.2 | trivial) (.int .i64 t590)) (fun _ hk => by first | exact hk.2 | trivial) (.int .i64 t591)) (fun _ hk => by first | exact hk.2 | trivial) (.slice Ao53 t592.length co53)) (fun _ hk => by first | exact hk.2 | trivial) (.int .i64 t595)) (fun _ hk => by first | exact hk.2 | trivial) (.string t596)) (fun _ hk => by first | exact hk.2 | trivial) (.string t597)) (fun _ hk => by first | exact hk.2 | trivial) (.int .i64 t598)) (fun _ hk => by first | exact hk.2 | trivial) (.int .i64 t599)) (fun _ hk => by first | exact hk.2 | trivial) (.int .i64 t600)) (fun _ h_ => h_.1))) : P := h
theorem z19_11 {P : Prop} (h : P := by (with_reducible repeat (first | apply Kd.R_alloc | apply Kd.R_drewN | apply Kd.R_drew)); exact (Kd.R_mono (Kd.R_far (p := ⟨gb604, 9, none⟩) (Kd.R_far (p := ⟨gb604, 8, none⟩) (Kd.R_far (p := ⟨gb604, 7, none⟩) (Kd.R_far (p := ⟨gb604, 6, none⟩) (Kd.R_far (p := ⟨gb604, 5, none⟩) (Kd.R_far (p := ⟨gb604, 4, none⟩) (Kd.R_far (p := ⟨gb604, 3, none⟩) (Kd.R_far (p := ⟨gb604, 2, none⟩) (Kd.R_far (p := ⟨gb604, 1, none⟩) (Kd.R_far (p := ⟨gb604, 0, none⟩) (Kd.R_types HO594.out BK604.out (by decide)) (fun _ hk => by first | exact hk.2 | trivial) (.int .i64 t589)) (fun _ hk => by first | exact hk.2 | trivial) (.int .i64 t590)) (fun _ hk => by first | exact hk.2 | trivial) (.int .i64 t591)) (fun _ hk => by first | exact hk.2 | trivial) (.slice Ao64 t592.length co64)) (fun _ hk => by first | exact hk.2 | trivial) (.int .i64 t595)) (fun _ hk => by first | exact hk.2 | trivial) (.string t596)) (fun _ hk => by first | exact hk.2 | trivial) (.string t597)) (fun _ hk => by first | exact hk.2 | trivial) (.int .i64 t598)) (fun _ hk => by first | exact hk.2 | trivial) (.int .i64 t599)) (fun _ hk => by first | exact hk.2 | trivial) (.int .i64 t600)) (fun _ h_ => h_.1))) : P := h
theorem z19_10 {P : Prop} (h : P := by (with_reducible repeat (first | apply blk_far (hp := NB549_555.out) | refine blk_drewN ?_ _ | refine blk_drew ?_ | refine blk_alloc ?_ _)); exact BK549.out) : P := h
theorem z19_9 {P : Prop} (h : P := by repeat (first | (with_reducible first | exact HK.out | apply KeepBut.set_ | apply keep_drewN | apply keep_drew | apply keep_alloc) | exact HK.out)) : P := h
theorem z19_8 {P : Prop} (h : P := by first | rfl | (simp only [List.map_toArray, List.map_cons, List.map_nil]; first | done | rfl)) : P := h
theorem z19_7 {P : Prop} (h : P := by repeat (first | (with_reducible first | exact HB.out | apply below_alloc | apply pw_below_drewN | apply below_drew1 | refine below_set ?_ (IsS61.ge HI588.out) | refine below_set ?_ GE587.out | refine below_set ?_ GE604.out) | exact HB.out)) : P := h
theorem z19_6 {P : Prop} (h : P := by repeat (first | (with_reducible first | exact HK.out | apply KeepBut.set_ | apply keep_drewN | apply keep_drew | apply keep_alloc | refine keep_far ?_ GW549.out _ | refine keep_far ?_ GW555.out _) | exact HK.out)) : P := h
theorem z19_5 {P : Prop} (h : P := by repeat (first | (with_reducible first | exact HB.out | apply below_alloc | apply pw_below_drewN | apply below_drew1 | refine below_set ?_ GE587.out) | exact HB.out)) : P := h
theorem z19_4 {P : Prop} (h : P := by repeat (first | (with_reducible first | exact HB.out | apply below_alloc | apply pw_below_drewN | apply below_drew1 | refine below_set ?_ (IsS61.ge HI588.out) | refine below_set ?_ GE587.out) | exact HB.out)) : P := h
theorem z19_3 {P : Prop} (h : P := by (with_reducible repeat (first | refine blk_drewN ?_ _ | refine blk_drew ?_ | refine blk_alloc ?_ _)); exact BK587.out) : P := h
theorem z19_2 {P : Prop} (h : P := by simp only [Act.put, List.setIfInBounds_toArray, List.set_cons_zero, List.set_cons_succ, i64_w, i32_w]; rfl) : P := h
theorem z19_1 {P : Prop} (h : P := by (with_reducible repeat (first | apply blk_far (hp := NB587_604.out) | refine blk_drewN ?_ _ | refine blk_drew ?_ | refine blk_alloc ?_ _)); exact BK587.out) : P := h
theorem z19_0 {P : Prop} (h : P := by (with_reducible repeat (first | apply bpa10 | refine blk_drewN ?_ _ | refine blk_drew ?_ | refine blk_alloc ?_ _)); exact BK587.out) : P := h
abbrev mk19_0 : Array Bool := mb 16 0
abbrev mk19_1 : Array Bool := mb 16 1
abbrev mk19_2 : Array Bool := mb 16 3
abbrev mk19_3 : Array Bool := mb 16 7
abbrev mk19_4 : Array Bool := mb 16 23
abbrev mk19_5 : Array Bool := mb 16 55
abbrev mk19_6 : Array Bool := mb 16 119
abbrev mk19_7 : Array Bool := mb 16 127
abbrev mk19_8 : Array Bool := mb 16 255
abbrev mk19_9 : Array Bool := mb 16 511
abbrev mk19_10 : Array Bool := mb 16 1023
abbrev mk19_11 : Array Bool := mb 16 2047
abbrev mk19_12 : Array Bool := mb 16 4095
abbrev mk19_13 : Array Bool := mb 16 8191
abbrev mk19_14 : Array Bool := mb 16 16383
abbrev mk19_15 : Array Bool := mb 16 32767
abbrev mk19_16 : Array Bool := mb 16 65535
abbrev mk19_17 : Array Bool := mb 8 0
abbrev mk19_18 : Array Bool := mb 8 2
abbrev mk19_19 : Array Bool := mb 8 6
abbrev mk19_20 : Array Bool := mb 8 14
abbrev mk19_21 : Array Bool := mb 8 15
abbrev mk19_22 : Array Bool := mb 8 31
abbrev mk19_23 : Array Bool := mb 8 63
abbrev mk19_24 : Array Bool := mb 8 127
abbrev mk19_25 : Array Bool := mb 8 255
theorem z19_27 {P : Prop} (h : P := by repeat (first | (with_reducible first | exact HI0.out | apply IsS61.alloc | apply IsS61.drewN | apply IsS61.drew | apply IsS61.set_0 | apply IsS61.set_1 | apply IsS61.set_2 | refine IsS61.far ?_ NB0_549.out _ | refine IsS61.far ?_ NB0_555.out _) | exact HI0.out)) : P := h
theorem z19_28 {P : Prop} (h : P := by repeat (first | (with_reducible first | exact HB.out | apply below_alloc | apply pw_below_drewN | apply below_drew1 | refine below_set ?_ (IsS61.ge HI0.out) | refine below_set ?_ GE549.out | refine below_set ?_ GE555.out) | exact HB.out)) : P := h
def spec_l05Read_short.f (k : Nat) (s0_0 : ByteArray) (s0_1 : Int) (s0_2 : Bool) : Option (ByteArray × ByteArray × Int × Bool) := if s0_2 = true then (some ((⟨#[]⟩ : ByteArray), s0_0, s0_1, s0_2)) else ((spec_ReadShort.f k s0_0 s0_1).bind fun bt546 => (if bt546.2.2 = true then (some (bt546.1, s0_0, bt546.2.1, s0_2)) else (some ((⟨#[]⟩ : ByteArray), s0_0, s0_1, true))))
def spec_l05Read_short.T3 : Bool × List (List Nat × List Nat) := (true, [([], []), ([0], [0]), ([1], [1]), ([2], [2]), ([], []), ([4], [4]), ([5], [5]), ([6], [6]), ([3, 7], [3, 7]), ([8], [8]), ([9], [9]), ([9], [9]), ([9], [9]), ([10, 8, 0, 1, 2, 3, 4, 5, 6, 7, 8, 9, 10], [10]), ([11, 13, 0, 1, 2, 3, 4, 5, 6, 7, 8, 9, 10, 11, 13], [11]), ([12, 14, 0, 1, 2, 3, 4, 5, 6, 7, 8, 9, 10, 11, 12, 13, 14], [12])])
def spec_l05Read_short.B3 : List Nat := [0, 1, 3, 7, 0, 16, 48, 112, 255, 511, 1023, 1023, 1023, 2047, 12287, 32767]
theorem spec_l05Read_short.tab3 : rtab .any (opsOf Try.f68 3) = spec_l05Read_short.T3 := by kernel_rfl
theorem spec_l05Read_short.bits3 : waitsOk spec_l05Read_short.T3.2 spec_l05Read_short.B3 = true := by kernel_rfl
set_option maxHeartbeats 8000000 in
set_option maxRecDepth 100000 in
theorem spec_l05Read_short.calls (k : Nat) (g : Nat) (s0_0 : ByteArray) (s0_1 : Int) (s0_2 : Bool) (r1 : ByteArray) (r2 : ByteArray) (r3 : Int) (r4 : Bool) (w0 w : World) (hI : IsS61 w0 w g s0_0 s0_1 s0_2) (hB : Below w0.heap.size w0 w) (h : spec_l05Read_short.f k s0_0 s0_1 s0_2 = some (r1, r2, r3, r4)) :
  Calls Try.prog 68 #[.pointer (some ⟨g, 0, none⟩)] w fun e w' => e = .returned (.string r1) ∧ IsS61 w0 w' g r2 r3 r4 ∧ Below w0.heap.size w0 w' ∧ KeepBut w w' g none := by
 have HI0 := Aside0.mk hI
 have HK := Aside0.mk (KeepBut.refl w g none)
 have HL := Aside0.mk hB.size
 clear hI
 have HW0 := Aside0.mk hB.size
 have HB := Aside0.mk hB
 clear hB
 have H : (if s0_2 = true then (some ((⟨#[]⟩ : ByteArray), s0_0, s0_1, s0_2)) else ((spec_ReadShort.f k s0_0 s0_1).bind fun bt546 => (if bt546.2.2 = true then (some (bt546.1, s0_0, bt546.2.1, s0_2)) else (some ((⟨#[]⟩ : ByteArray), s0_0, s0_1, true))))) = some (r1, r2, r3, r4) := h
 clear h
 by_cases c2 : s0_2 = true
 ·
  subst c2
  rw [if_pos rfl] at H
  simp only [Option.some.injEq, Prod.mk.injEq] at H
  obtain ⟨rfl, rfl, rfl, rfl⟩ := H
  obtain ⟨HGz3, hgz3⟩ := HI0.out
  have hcz3_0 := cellS61_0 HGz3
  have hcz3_1 := cellS61_1 HGz3
  have hcz3_2 := cellS61_2 HGz3
  have hfz3_0 := blk_frozen HGz3 0
  have hfz3_1 := blk_frozen HGz3 1
  have hfz3_2 := blk_frozen HGz3 2
  clear HGz3 hgz3
  go_enter Try.func68, Try.ntmps68
  go_wp2
  go_ret
  exact ⟨z19_18, z19_16, z19_17, z19_9⟩
 replace c2 := Bool.eq_false_iff.mpr c2
 subst c2
 rw [if_neg (show ¬ (false = true) by decide)] at H
 replace H := Option.bind_eq_some_iff.mp H
 obtain ⟨⟨t546, t547, t548⟩, A40, H⟩ := H
 (try dsimp only at H)
 have A4 := Aside0.mk A40
 clear A40
 by_cases c5 : t548 = true
 ·
  subst c5
  rw [if_pos rfl] at H
  simp only [Option.some.injEq, Prod.mk.injEq] at H
  obtain ⟨rfl, rfl, rfl, rfl⟩ := H
  obtain ⟨HGz6, hgz6⟩ := HI0.out
  have hcz6_0 := cellS61_0 HGz6
  have hcz6_1 := cellS61_1 HGz6
  have hcz6_2 := cellS61_2 HGz6
  have hfz6_0 := blk_frozen HGz6 0
  have hfz6_1 := blk_frozen HGz6 1
  have hfz6_2 := blk_frozen HGz6 2
  clear HGz6 hgz6
  go_enter Try.func68, Try.ntmps68
  try go_wp2
  replace HI0 := Aside0.mk (IsS61.drew HI0.out)
  replace HK := Aside0.mk (keep_drew HK.out)
  replace HB := Aside0.mk (below_drew1 HB.out)
  refine start_ (n := 16) (S := fun w' => w'.cell? ⟨g, 0, none⟩ = some (.string s0_0) ∧ w'.cell? ⟨g, 1, none⟩ = some (.int .i64 s0_1) ∧ w'.cell? ⟨g, 2, none⟩ = some (.bool false)) (ds := []) mk19_0 z19_20 rfl rfl ⟨(blk_cell HI0.out.1 0).trans rfl, (blk_cell HI0.out.1 1).trans rfl, (blk_cell HI0.out.1 2).trans rfl⟩ (fun hHeld => ?_); refine with_tabW spec_l05Read_short.tab3 spec_l05Read_short.bits3 (fun HT_ HW_ => ?_)
  generalize w.drew = w7 at HI0 HK HB hHeld ⊢
  refine p_ (i := 0) (N := some 11) mk19_1 ?_ (hv := z19_15) (ha := z19_2)
  refine p_ (i := 1) (N := some 12) mk19_2 ?_ (hv := z19_15) (ha := z19_2)
  refine p_ (i := 2) (N := some 13) mk19_3 ?_ (hv := z19_15) (ha := z19_2)
  refine p_ (i := 4) (N := some 15) mk19_4 ?_ (hv := z19_15) (ha := z19_2)
  refine p_ (i := 5) (N := some 16) mk19_5 ?_ (hv := z19_15) (ha := z19_2)
  refine p_ (i := 6) (N := some 17) mk19_6 ?_ (hv := z19_15) (ha := z19_2)
  refine t_ (i := 3) (N := some 14) mk19_7 hHeld ?_ (ha := z19_2)
  refine t_ (i := 7) (N := some 18) mk19_8 hHeld ?_ (ha := z19_2)
  refine o_ (i := 8) (N := some 19) mk19_9 (fun K hK => ?_)
  refine goes_ Try.func80 z19_20 rfl #[.string s0_0, .int .i64 s0_1] (by rfl) rfl rfl z19_8 ?_
  with_reducible refine (spec_ReadShort.calls k s0_0 s0_1 t546 t547 true _ A4.out).mono ?_
  rintro e w8 ⟨rfl, hb⟩
  refine ⟨_, rfl, ?_⟩
  replace HK := Aside0.mk (KeepBut.trans z19_9 (KeepBut.of_below hb g none) (.inl rfl))
  replace HB := Aside0.mk (below_step z19_17 hb)
  replace HI0 := Aside0.mk (IsS61.below z19_16 hb)
  (try clear hb)
  (try clear hb2)
  (try clear hk)
  (try clear hi)
  refine hK.out _ _ ⟨(blk_cell HI0.out.1 0).trans rfl, (blk_cell HI0.out.1 1).trans rfl, (blk_cell HI0.out.1 2).trans rfl⟩ (fun hHeld => ?_)
  clear hK K
  refine n_ (N := some 19) ?_
  refine p_ (i := 9) (N := some 10) mk19_10 ?_ (hv := z19_15) (ha := z19_2)
  refine p_ (i := 10) (N := some 20) mk19_11 ?_ (hv := z19_15) (ha := z19_2)
  refine p_ (i := 11) (N := some 21) mk19_12 ?_ (hv := z19_15) (ha := z19_2)
  refine p_ (i := 12) (N := some 22) mk19_13 ?_ (hv := z19_15) (ha := z19_2)
  refine p_ (i := 13) (N := some 3) mk19_14 ?_ (hv := z19_15) (ha := z19_2)
  refine p_ (i := 14) (N := some 4) mk19_15 ?_ (hv := z19_15) (ha := z19_2)
  refine p_ (i := 15) (N := some 5) mk19_16 ?_ (hv := z19_15) (ha := z19_2)
  refine done_ (done_of HT_.out z19_20) ?_
  obtain ⟨HGz9, hgz9⟩ := HI0.out
  have hcz9_0 := cellS61_0 HGz9
  have hcz9_1 := cellS61_1 HGz9
  have hcz9_2 := cellS61_2 HGz9
  have hfz9_0 := blk_frozen HGz9 0
  have hfz9_1 := blk_frozen HGz9 1
  have hfz9_2 := blk_frozen HGz9 2
  clear HGz9 hgz9
  try go_wp2
  go_ret
  exact ⟨z19_18, z19_16, z19_17, z19_9⟩
 replace c5 := Bool.eq_false_iff.mpr c5
 subst c5
 rw [if_neg (show ¬ (false = true) by decide)] at H
 simp only [Option.some.injEq, Prod.mk.injEq] at H
 obtain ⟨rfl, rfl, rfl, rfl⟩ := H
 obtain ⟨HGz10, hgz10⟩ := HI0.out
 have hcz10_0 := cellS61_0 HGz10
 have hcz10_1 := cellS61_1 HGz10
 have hcz10_2 := cellS61_2 HGz10
 have hfz10_0 := blk_frozen HGz10 0
 have hfz10_1 := blk_frozen HGz10 1
 have hfz10_2 := blk_frozen HGz10 2
 clear HGz10 hgz10
 go_enter Try.func68, Try.ntmps68
 try go_wp2
 replace HI0 := Aside0.mk (IsS61.drew HI0.out)
 replace HK := Aside0.mk (keep_drew HK.out)
 replace HB := Aside0.mk (below_drew1 HB.out)
 refine start_ (n := 16) (S := fun w' => w'.cell? ⟨g, 0, none⟩ = some (.string s0_0) ∧ w'.cell? ⟨g, 1, none⟩ = some (.int .i64 s0_1) ∧ w'.cell? ⟨g, 2, none⟩ = some (.bool false)) (ds := []) mk19_0 z19_20 rfl rfl ⟨(blk_cell HI0.out.1 0).trans rfl, (blk_cell HI0.out.1 1).trans rfl, (blk_cell HI0.out.1 2).trans rfl⟩ (fun hHeld => ?_); refine with_tabW spec_l05Read_short.tab3 spec_l05Read_short.bits3 (fun HT_ HW_ => ?_)
 generalize w.drew = w11 at HI0 HK HB hHeld ⊢
 refine p_ (i := 0) (N := some 11) mk19_1 ?_ (hv := z19_15) (ha := z19_2)
 refine p_ (i := 1) (N := some 12) mk19_2 ?_ (hv := z19_15) (ha := z19_2)
 refine p_ (i := 2) (N := some 13) mk19_3 ?_ (hv := z19_15) (ha := z19_2)
 refine p_ (i := 4) (N := some 15) mk19_4 ?_ (hv := z19_15) (ha := z19_2)
 refine p_ (i := 5) (N := some 16) mk19_5 ?_ (hv := z19_15) (ha := z19_2)
 refine p_ (i := 6) (N := some 17) mk19_6 ?_ (hv := z19_15) (ha := z19_2)
 refine t_ (i := 3) (N := some 14) mk19_7 hHeld ?_ (ha := z19_2)
 refine t_ (i := 7) (N := some 18) mk19_8 hHeld ?_ (ha := z19_2)
 refine o_ (i := 8) (N := some 19) mk19_9 (fun K hK => ?_)
 refine goes_ Try.func80 z19_20 rfl #[.string s0_0, .int .i64 s0_1] (by rfl) rfl rfl z19_8 ?_
 with_reducible refine (spec_ReadShort.calls k s0_0 s0_1 t546 t547 false _ A4.out).mono ?_
 rintro e w12 ⟨rfl, hb⟩
 refine ⟨_, rfl, ?_⟩
 replace HK := Aside0.mk (KeepBut.trans z19_9 (KeepBut.of_below hb g none) (.inl rfl))
 replace HB := Aside0.mk (below_step z19_17 hb)
 replace HI0 := Aside0.mk (IsS61.below z19_16 hb)
 (try clear hb)
 (try clear hb2)
 (try clear hk)
 (try clear hi)
 refine hK.out _ _ ⟨(blk_cell HI0.out.1 0).trans rfl, (blk_cell HI0.out.1 1).trans rfl, (blk_cell HI0.out.1 2).trans rfl⟩ (fun hHeld => ?_)
 clear hK K
 refine n_ (N := some 19) ?_
 refine p_ (i := 9) (N := some 10) mk19_10 ?_ (hv := z19_15) (ha := z19_2)
 refine p_ (i := 10) (N := some 20) mk19_11 ?_ (hv := z19_15) (ha := z19_2)
 refine p_ (i := 11) (N := some 21) mk19_12 ?_ (hv := z19_15) (ha := z19_2)
 refine p_ (i := 12) (N := some 22) mk19_13 ?_ (hv := z19_15) (ha := z19_2)
 refine p_ (i := 13) (N := some 3) mk19_14 ?_ (hv := z19_15) (ha := z19_2)
 refine p_ (i := 14) (N := some 4) mk19_15 ?_ (hv := z19_15) (ha := z19_2)
 refine p_ (i := 15) (N := some 5) mk19_16 ?_ (hv := z19_15) (ha := z19_2)
 refine done_ (done_of HT_.out z19_20) ?_
 obtain ⟨HGz13, hgz13⟩ := HI0.out
 have hcz13_0 := cellS61_0 HGz13
 have hcz13_1 := cellS61_1 HGz13
 have hcz13_2 := cellS61_2 HGz13
 have hfz13_0 := blk_frozen HGz13 0
 have hfz13_1 := blk_frozen HGz13 1
 have hfz13_2 := blk_frozen HGz13 2
 clear HGz13 hgz13
 try go_wp2
 go_ret
 exact ⟨z19_18, z19_16, z19_17, z19_9⟩
def spec_l05Read_act.f (k : Nat) (s0_0 : ByteArray) (s0_1 : Int) (s0_2 : Bool) : Option (Int × Int × Int × List Int × Int × ByteArray × ByteArray × Int × Int × Int × ByteArray × Int × Bool) := (spec_l05Read_dot.f k s0_0 s0_1 s0_2).bind fun bt550 => ((spec_l05Read_num.f k bt550.2.2.1 bt550.2.2.2.1 bt550.2.2.2.2).bind fun bt556 => ((spec_l05Read_know.f k bt556.2.1 bt556.2.2.1 bt556.2.2.2).bind fun bt560 => ((spec_l05Read_num.f k bt560.2.1 bt560.2.2.1 bt560.2.2.2).bind fun bt566 => ((spec_l05Read_short.f k bt566.2.1 bt566.2.2.1 bt566.2.2.2).bind fun bt570 => ((spec_l05Read_short.f k bt570.2.1 bt570.2.2.1 bt570.2.2.2).bind fun bt574 => ((spec_l05Read_num.f k bt574.2.1 bt574.2.2.1 bt574.2.2.2).bind fun bt578 => ((spec_l05Read_dot.f k bt578.2.1 bt578.2.2.1 bt578.2.2.2).bind fun bt582 => (some (bt550.1, bt550.2.1, bt556.1, bt560.1, bt566.1, bt570.1, bt574.1, bt578.1, bt582.1, bt582.2.1, bt582.2.2.1, bt582.2.2.2.1, bt582.2.2.2.2)))))))))
set_option maxHeartbeats 8000000 in
set_option maxRecDepth 100000 in
theorem spec_l05Read_act.calls (k : Nat) (g : Nat) (s0_0 : ByteArray) (s0_1 : Int) (s0_2 : Bool) (r1 : Int) (r2 : Int) (r3 : Int) (r4 : List Int) (r5 : Int) (r6 : ByteArray) (r7 : ByteArray) (r8 : Int) (r9 : Int) (r10 : Int) (r11 : ByteArray) (r12 : Int) (r13 : Bool) (w0 w : World) (hI : IsS61 w0 w g s0_0 s0_1 s0_2) (hB : Below w0.heap.size w0 w) (h : spec_l05Read_act.f k s0_0 s0_1 s0_2 = some (r1, r2, r3, r4, r5, r6, r7, r8, r9, r10, r11, r12, r13)) :
  Calls Try.prog 37 #[.pointer (some ⟨g, 0, none⟩)] w fun e w' => ∃ v3_ : Value, e = .returned (.agg #[.int .i64 r1, .int .i64 r2, .int .i64 r3, v3_, .int .i64 r5, .string r6, .string r7, .int .i64 r8, .int .i64 r9, .int .i64 r10]) ∧ Kd.R (Kd.int .i64) 3 w' w.heap.size (fun _ => True) v3_ r4 ∧ IsS61 w0 w' g r11 r12 r13 ∧ Below w0.heap.size w0 w' ∧ KeepBut w w' g none := by
 have hu31 := Try.underlying31
 have hu28 := Try.underlying28
 have HI0 := Aside0.mk hI
 have HK := Aside0.mk (KeepBut.refl w g none)
 have HL := Aside0.mk hB.size
 clear hI
 have HW0 := Aside0.mk hB.size
 have HB := Aside0.mk hB
 clear hB
 have H := h
 unfold spec_l05Read_act.f at H
 clear h
 replace H := Option.bind_eq_some_iff.mp H
 obtain ⟨⟨t550, t551, t552, t553, t554⟩, A20, H⟩ := H
 (try dsimp only at H)
 have A2 := Aside0.mk A20
 clear A20
 replace H := Option.bind_eq_some_iff.mp H
 obtain ⟨⟨t556, t557, t558, t559⟩, A30, H⟩ := H
 (try dsimp only at H)
 have A3 := Aside0.mk A30
 clear A30
 replace H := Option.bind_eq_some_iff.mp H
 obtain ⟨⟨t560, t563, t564, t565⟩, A40, H⟩ := H
 (try dsimp only at H)
 have A4 := Aside0.mk A40
 clear A40
 replace H := Option.bind_eq_some_iff.mp H
 obtain ⟨⟨t566, t567, t568, t569⟩, A50, H⟩ := H
 (try dsimp only at H)
 have A5 := Aside0.mk A50
 clear A50
 replace H := Option.bind_eq_some_iff.mp H
 obtain ⟨⟨t570, t571, t572, t573⟩, A60, H⟩ := H
 (try dsimp only at H)
 have A6 := Aside0.mk A60
 clear A60
 replace H := Option.bind_eq_some_iff.mp H
 obtain ⟨⟨t574, t575, t576, t577⟩, A70, H⟩ := H
 (try dsimp only at H)
 have A7 := Aside0.mk A70
 clear A70
 replace H := Option.bind_eq_some_iff.mp H
 obtain ⟨⟨t578, t579, t580, t581⟩, A80, H⟩ := H
 (try dsimp only at H)
 have A8 := Aside0.mk A80
 clear A80
 replace H := Option.bind_eq_some_iff.mp H
 obtain ⟨⟨t582, t583, t584, t585, t586⟩, A90, H⟩ := H
 (try dsimp only at H)
 have A9 := Aside0.mk A90
 clear A90
 simp only [Option.some.injEq, Prod.mk.injEq] at H
 obtain ⟨rfl, rfl, rfl, rfl, rfl, rfl, rfl, rfl, rfl, rfl, rfl, rfl, rfl⟩ := H
 go_enter Try.func37, Try.ntmps37
 go_wp2_with (first | ((with_reducible refine gate_dst (N := 2) rfl ?_); refine box_event ?hg (N := 2) ?hd (cs := #[.int .i64 0, .int .i64 0, .int .i64 0, .slice none 0 0, .int .i64 0, .string (⟨#[]⟩ : ByteArray), .string (⟨#[]⟩ : ByteArray), .int .i64 0, .int .i64 0, .int .i64 0]) (t := 31) ?hr ?_; (case hd => rfl); (case hg => rfl); (case hr => first | (go_simp; done) | (go_simp; rfl)); intro gb549 hg w10 hbox hb; replace HB := Aside0.mk (below_step z19_17 hb); have BK549 := Aside0.mk (hbox); have GW549 := Aside0.mk ((by rw [hg]; exact (keep_size (w := w) (g := g) (row := none) z19_9) : w.heap.size ≤ gb549)); have GE549 := Aside0.mk ((Nat.le_trans HW0.out (by rw [hg]; exact (keep_size (w := w) (g := g) (row := none) z19_9) : w.heap.size ≤ gb549) : w0.heap.size ≤ gb549)); replace HK := Aside0.mk (KeepBut.trans z19_9 (KeepBut.of_below hb g none) (.inl rfl)); have NB0_549 := Aside0.mk ((by rw [hg]; exact Nat.ne_of_lt (IsS61.lt (show IsS61 w0 _ g s0_0 s0_1 s0_2 from by repeat (first | (with_reducible first | exact HI0.out | apply IsS61.alloc | apply IsS61.drewN | apply IsS61.drew | apply IsS61.set_0 | apply IsS61.set_1 | apply IsS61.set_2) | exact HI0.out))) : g ≠ gb549)); have NB549_0 := Aside0.mk ((by rw [hg]; exact Nat.ne_of_gt (IsS61.lt (show IsS61 w0 _ g s0_0 s0_1 s0_2 from by repeat (first | (with_reducible first | exact HI0.out | apply IsS61.alloc | apply IsS61.drewN | apply IsS61.drew | apply IsS61.set_0 | apply IsS61.set_1 | apply IsS61.set_2) | exact HI0.out))) : gb549 ≠ g)); replace HI0 := Aside0.mk (IsS61.below z19_16 hb); clear hb hbox hg) | ((with_reducible refine gate_callee (f := 65) rfl ?_); refine goesL_ (some 5) rfl rfl Try.func65 z19_20 rfl #[.pointer (some ⟨g, 0, none⟩)] rfl z19_8 ?_; (with_reducible refine (spec_l05Read_dot.calls k g s0_0 s0_1 s0_2 t550 t551 t552 t553 t554 w0 _ ?side1 ?side2 A2.out).mono ?_); (case side1 => repeat (first | (with_reducible first | exact HI0.out | apply IsS61.alloc | apply IsS61.drewN | apply IsS61.drew | apply IsS61.set_0 | apply IsS61.set_1 | apply IsS61.set_2 | refine IsS61.far ?_ NB0_549.out _) | exact HI0.out)); (case side2 => repeat (first | (with_reducible first | exact HB.out | apply below_alloc | apply pw_below_drewN | apply below_drew1 | refine below_set ?_ (IsS61.ge HI0.out) | refine below_set ?_ GE549.out) | exact HB.out)); rintro e w11 ⟨rfl, hi, hb, hk⟩; refine ⟨_, rfl, ?_⟩; replace BK549 := kb_ BK549 hk z19_24 NB549_0; replace HK := Aside0.mk (KeepBut.trans z19_21 hk (.inl rfl)); replace HB := Aside0.mk (hb); replace HI0 := Aside0.mk (hi)) | ((with_reducible refine gate_dst (N := 3) rfl ?_); refine box_event ?hg (N := 3) ?hd (cs := #[.int .i64 0, .int .i64 0, .int .i64 0, .slice none 0 0, .int .i64 0, .string (⟨#[]⟩ : ByteArray), .string (⟨#[]⟩ : ByteArray), .int .i64 0, .int .i64 0, .int .i64 0]) (t := 31) ?hr ?_; (case hd => rfl); (case hg => rfl); (case hr => first | (go_simp; done) | (go_simp; rfl)); intro gb555 hg w12 hbox hb; replace HB := Aside0.mk (below_step (by repeat (first | (with_reducible first | exact HB.out | apply below_alloc | apply pw_below_drewN | apply below_drew1 | refine below_set ?_ (IsS61.ge HI0.out) | refine below_set ?_ GE549.out) | exact HB.out)) hb); have BK555 := Aside0.mk (hbox); have GW555 := Aside0.mk ((by rw [hg]; exact (keep_size (w := w) (g := g) (row := none) z19_21) : w.heap.size ≤ gb555)); have GE555 := Aside0.mk ((Nat.le_trans HW0.out (by rw [hg]; exact (keep_size (w := w) (g := g) (row := none) z19_21) : w.heap.size ≤ gb555) : w0.heap.size ≤ gb555)); replace HK := Aside0.mk (KeepBut.trans z19_21 (KeepBut.of_below hb g none) (.inl rfl)); have NB549_555 := nb_ BK549 z19_24 hg; have NB555_549 := nc_ BK549 z19_24 hg; replace BK549 := bb_ BK549 z19_24 hb; have NB0_555 := Aside0.mk ((by rw [hg]; exact Nat.ne_of_lt (IsS61.lt (show IsS61 w0 _ g t552 t553 t554 from by repeat (first | (with_reducible first | exact HI0.out | apply IsS61.alloc | apply IsS61.drewN | apply IsS61.drew | apply IsS61.set_0 | apply IsS61.set_1 | apply IsS61.set_2 | refine IsS61.far ?_ NB0_549.out _) | exact HI0.out))) : g ≠ gb555)); have NB555_0 := Aside0.mk ((by rw [hg]; exact Nat.ne_of_gt (IsS61.lt (show IsS61 w0 _ g t552 t553 t554 from by repeat (first | (with_reducible first | exact HI0.out | apply IsS61.alloc | apply IsS61.drewN | apply IsS61.drew | apply IsS61.set_0 | apply IsS61.set_1 | apply IsS61.set_2 | refine IsS61.far ?_ NB0_549.out _) | exact HI0.out))) : gb555 ≠ g)); replace HI0 := Aside0.mk (IsS61.below (by repeat (first | (with_reducible first | exact HI0.out | apply IsS61.alloc | apply IsS61.drewN | apply IsS61.drew | apply IsS61.set_0 | apply IsS61.set_1 | apply IsS61.set_2 | refine IsS61.far ?_ NB0_549.out _) | exact HI0.out)) hb); clear hb hbox hg; have hnb13 := NB555_549.out; have hnc13 := NB549_555.out; have hnb14 := NB555_0.out; have hnc14 := NB0_555.out; have hcz15 := bc10 BK555.out) | ((with_reducible refine gate_callee (f := 66) rfl ?_); refine goesL_ (some 8) rfl rfl Try.func66 z19_20 rfl #[.pointer (some ⟨g, 0, none⟩)] rfl z19_8 ?_; (with_reducible refine (spec_l05Read_num.calls k g t552 t553 t554 t556 t557 t558 t559 w0 _ ?side1 ?side2 A3.out).mono ?_); (case side1 => exact z19_27); (case side2 => exact z19_28); rintro e w16 ⟨rfl, hi, hb, hk⟩; refine ⟨_, rfl, ?_⟩; replace BK549 := kb_ BK549 hk (by (with_reducible repeat (first | apply blk_far (hp := NB549_555.out) | refine blk_drewN ?_ _ | refine blk_drew ?_ | refine blk_alloc ?_ _)); exact BK549.out) NB549_0; replace BK555 := Aside0.mk (KeepBut.blk hk (g' := gb555) (o := .cells #[.int .i64 t550, .int .i64 t551, .int .i64 0, .slice none 0 0, .int .i64 0, .string (⟨#[]⟩ : ByteArray), .string (⟨#[]⟩ : ByteArray), .int .i64 0, .int .i64 0, .int .i64 0] 31 (0, 0)) (by (with_reducible repeat (first | apply bpa10 | refine blk_drewN ?_ _ | refine blk_drew ?_ | refine blk_alloc ?_ _)); exact BK555.out) NB555_0.out (by simp)); replace HK := Aside0.mk (KeepBut.trans z19_6 hk (.inl rfl)); replace HB := Aside0.mk (hb); replace HI0 := Aside0.mk (hi); have hcz17 := bc10 BK555.out) | ((with_reducible refine gate_callee (f := 67) rfl ?_); refine goesL_ (some 11) rfl rfl Try.func67 z19_20 rfl #[.pointer (some ⟨g, 0, none⟩)] rfl z19_8 ?_; (with_reducible refine (spec_l05Read_know.calls k g t557 t558 t559 t560 t563 t564 t565 w0 _ ?side1 ?side2 A4.out).mono ?_); (case side1 => exact z19_27); (case side2 => exact z19_28); rintro e w18 ⟨v561, rfl, ho0, hi, hb, hk⟩; refine ⟨_, rfl, ?_⟩; replace BK549 := kb_ BK549 hk z19_10 NB549_0; replace BK555 := Aside0.mk (KeepBut.blk hk (g' := gb555) (o := .cells #[.int .i64 t550, .int .i64 t551, .int .i64 t556, .slice none 0 0, .int .i64 0, .string (⟨#[]⟩ : ByteArray), .string (⟨#[]⟩ : ByteArray), .int .i64 0, .int .i64 0, .int .i64 0] 31 (0, 0)) (by (with_reducible repeat (first | apply bp10_2 | refine blk_drewN ?_ _ | refine blk_drew ?_ | refine blk_alloc ?_ _)); exact BK555.out) NB555_0.out (by simp)); have HO562 := Aside0.mk (Kd.R_lower ho0 (keep_size (w := w) (g := g) (row := none) z19_6)); replace HK := Aside0.mk (KeepBut.trans z19_6 hk (.inl rfl)); replace HB := Aside0.mk (hb); replace HI0 := Aside0.mk (hi); (try clear ho0); obtain ⟨Ao19, co19, eo19⟩ := Kd.R_slice HO562.out; subst eo19; have hcz20 := bc10 BK555.out) | ((with_reducible refine gate_callee (f := 66) rfl ?_); refine goesL_ (some 14) rfl rfl Try.func66 z19_20 rfl #[.pointer (some ⟨g, 0, none⟩)] rfl z19_8 ?_; (with_reducible refine (spec_l05Read_num.calls k g t563 t564 t565 t566 t567 t568 t569 w0 _ ?side1 ?side2 A5.out).mono ?_); (case side1 => exact z19_27); (case side2 => exact z19_28); rintro e w21 ⟨rfl, hi, hb, hk⟩; refine ⟨_, rfl, ?_⟩; replace BK549 := kb_ BK549 hk z19_10 NB549_0; replace HO562 := Aside0.mk (Kd.R_mono (Kd.R_keep (IsS61.apart (show IsS61 w0 _ g t563 t564 t565 from by repeat (first | (with_reducible first | exact HI0.out | apply IsS61.alloc | apply IsS61.drewN | apply IsS61.drew | apply IsS61.set_0 | apply IsS61.set_1 | apply IsS61.set_2 | refine IsS61.far ?_ NB0_549.out _ | refine IsS61.far ?_ NB0_555.out _) | exact HI0.out)) (by (with_reducible repeat (first | apply Kd.R_alloc | apply Kd.R_drewN | apply Kd.R_drew)); exact (Kd.R_mono (Kd.R_far (p := ⟨gb555, 3, none⟩) (Kd.R_types HO562.out BK555.out (by decide)) (fun _ hk => by first | exact hk.2 | trivial) (.slice Ao19 t560.length co19)) (fun _ h_ => h_.1))) (by decide)) hk (fun _ h => h.2)) (fun _ h => h.1)); replace BK555 := Aside0.mk (KeepBut.blk hk (g' := gb555) (o := .cells #[.int .i64 t550, .int .i64 t551, .int .i64 t556, .slice Ao19 t560.length co19, .int .i64 0, .string (⟨#[]⟩ : ByteArray), .string (⟨#[]⟩ : ByteArray), .int .i64 0, .int .i64 0, .int .i64 0] 31 (0, 0)) (by (with_reducible repeat (first | apply bp10_3 | refine blk_drewN ?_ _ | refine blk_drew ?_ | refine blk_alloc ?_ _)); exact BK555.out) NB555_0.out (by simp)); replace HK := Aside0.mk (KeepBut.trans z19_6 hk (.inl rfl)); replace HB := Aside0.mk (hb); replace HI0 := Aside0.mk (hi); have hcz22 := bc10 BK555.out) | ((with_reducible refine gate_callee (f := 68) rfl ?_); refine goesL_ (some 17) rfl rfl Try.func68 z19_20 rfl #[.pointer (some ⟨g, 0, none⟩)] rfl z19_8 ?_; (with_reducible refine (spec_l05Read_short.calls k g t567 t568 t569 t570 t571 t572 t573 w0 _ ?side1 ?side2 A6.out).mono ?_); (case side1 => exact z19_27); (case side2 => exact z19_28); rintro e w23 ⟨rfl, hi, hb, hk⟩; refine ⟨_, rfl, ?_⟩; replace BK549 := kb_ BK549 hk z19_10 NB549_0; replace HO562 := Aside0.mk (Kd.R_mono (Kd.R_keep (IsS61.apart (show IsS61 w0 _ g t567 t568 t569 from by repeat (first | (with_reducible first | exact HI0.out | apply IsS61.alloc | apply IsS61.drewN | apply IsS61.drew | apply IsS61.set_0 | apply IsS61.set_1 | apply IsS61.set_2 | refine IsS61.far ?_ NB0_549.out _ | refine IsS61.far ?_ NB0_555.out _) | exact HI0.out)) (by (with_reducible repeat (first | apply Kd.R_alloc | apply Kd.R_drewN | apply Kd.R_drew)); exact (Kd.R_mono (Kd.R_far (p := ⟨gb555, 4, none⟩) (Kd.R_types HO562.out BK555.out (by decide)) (fun _ hk => by first | exact hk.2 | trivial) (.int .i64 t566)) (fun _ h_ => h_.1))) (by decide)) hk (fun _ h => h.2)) (fun _ h => h.1)); replace BK555 := Aside0.mk (KeepBut.blk hk (g' := gb555) (o := .cells #[.int .i64 t550, .int .i64 t551, .int .i64 t556, .slice Ao19 t560.length co19, .int .i64 t566, .string (⟨#[]⟩ : ByteArray), .string (⟨#[]⟩ : ByteArray), .int .i64 0, .int .i64 0, .int .i64 0] 31 (0, 0)) (by (with_reducible repeat (first | apply bp10_4 | refine blk_drewN ?_ _ | refine blk_drew ?_ | refine blk_alloc ?_ _)); exact BK555.out) NB555_0.out (by simp)); replace HK := Aside0.mk (KeepBut.trans z19_6 hk (.inl rfl)); replace HB := Aside0.mk (hb); replace HI0 := Aside0.mk (hi); have hcz24 := bc10 BK555.out) | ((with_reducible refine gate_callee (f := 68) rfl ?_); refine goesL_ (some 20) rfl rfl Try.func68 z19_20 rfl #[.pointer (some ⟨g, 0, none⟩)] rfl z19_8 ?_; (with_reducible refine (spec_l05Read_short.calls k g t571 t572 t573 t574 t575 t576 t577 w0 _ ?side1 ?side2 A7.out).mono ?_); (case side1 => exact z19_27); (case side2 => exact z19_28); rintro e w25 ⟨rfl, hi, hb, hk⟩; refine ⟨_, rfl, ?_⟩; replace BK549 := kb_ BK549 hk z19_10 NB549_0; replace HO562 := Aside0.mk (Kd.R_mono (Kd.R_keep (IsS61.apart (show IsS61 w0 _ g t571 t572 t573 from by repeat (first | (with_reducible first | exact HI0.out | apply IsS61.alloc | apply IsS61.drewN | apply IsS61.drew | apply IsS61.set_0 | apply IsS61.set_1 | apply IsS61.set_2 | refine IsS61.far ?_ NB0_549.out _ | refine IsS61.far ?_ NB0_555.out _) | exact HI0.out)) (by (with_reducible repeat (first | apply Kd.R_alloc | apply Kd.R_drewN | apply Kd.R_drew)); exact (Kd.R_mono (Kd.R_far (p := ⟨gb555, 5, none⟩) (Kd.R_types HO562.out BK555.out (by decide)) (fun _ hk => by first | exact hk.2 | trivial) (.string t570)) (fun _ h_ => h_.1))) (by decide)) hk (fun _ h => h.2)) (fun _ h => h.1)); replace BK555 := Aside0.mk (KeepBut.blk hk (g' := gb555) (o := .cells #[.int .i64 t550, .int .i64 t551, .int .i64 t556, .slice Ao19 t560.length co19, .int .i64 t566, .string t570, .string (⟨#[]⟩ : ByteArray), .int .i64 0, .int .i64 0, .int .i64 0] 31 (0, 0)) (by (with_reducible repeat (first | apply bp10_5 | refine blk_drewN ?_ _ | refine blk_drew ?_ | refine blk_alloc ?_ _)); exact BK555.out) NB555_0.out (by simp)); replace HK := Aside0.mk (KeepBut.trans z19_6 hk (.inl rfl)); replace HB := Aside0.mk (hb); replace HI0 := Aside0.mk (hi); have hcz26 := bc10 BK555.out) | ((with_reducible refine gate_callee (f := 66) rfl ?_); refine goesL_ (some 23) rfl rfl Try.func66 z19_20 rfl #[.pointer (some ⟨g, 0, none⟩)] rfl z19_8 ?_; (with_reducible refine (spec_l05Read_num.calls k g t575 t576 t577 t578 t579 t580 t581 w0 _ ?side1 ?side2 A8.out).mono ?_); (case side1 => exact z19_27); (case side2 => exact z19_28); rintro e w27 ⟨rfl, hi, hb, hk⟩; refine ⟨_, rfl, ?_⟩; replace BK549 := kb_ BK549 hk z19_10 NB549_0; replace HO562 := Aside0.mk (Kd.R_mono (Kd.R_keep (IsS61.apart (show IsS61 w0 _ g t575 t576 t577 from by repeat (first | (with_reducible first | exact HI0.out | apply IsS61.alloc | apply IsS61.drewN | apply IsS61.drew | apply IsS61.set_0 | apply IsS61.set_1 | apply IsS61.set_2 | refine IsS61.far ?_ NB0_549.out _ | refine IsS61.far ?_ NB0_555.out _) | exact HI0.out)) (by (with_reducible repeat (first | apply Kd.R_alloc | apply Kd.R_drewN | apply Kd.R_drew)); exact (Kd.R_mono (Kd.R_far (p := ⟨gb555, 6, none⟩) (Kd.R_types HO562.out BK555.out (by decide)) (fun _ hk => by first | exact hk.2 | trivial) (.string t574)) (fun _ h_ => h_.1))) (by decide)) hk (fun _ h => h.2)) (fun _ h => h.1)); replace BK555 := Aside0.mk (KeepBut.blk hk (g' := gb555) (o := .cells #[.int .i64 t550, .int .i64 t551, .int .i64 t556, .slice Ao19 t560.length co19, .int .i64 t566, .string t570, .string t574, .int .i64 0, .int .i64 0, .int .i64 0] 31 (0, 0)) (by (with_reducible repeat (first | apply bp10_6 | refine blk_drewN ?_ _ | refine blk_drew ?_ | refine blk_alloc ?_ _)); exact BK555.out) NB555_0.out (by simp)); replace HK := Aside0.mk (KeepBut.trans z19_6 hk (.inl rfl)); replace HB := Aside0.mk (hb); replace HI0 := Aside0.mk (hi); have hcz28 := bc10 BK555.out) | ((with_reducible refine gate_callee (f := 65) rfl ?_); refine goesL_ (some 26) rfl rfl Try.func65 z19_20 rfl #[.pointer (some ⟨g, 0, none⟩)] rfl z19_8 ?_; (with_reducible refine (spec_l05Read_dot.calls k g t579 t580 t581 t582 t583 t584 t585 t586 w0 _ ?side1 ?side2 A9.out).mono ?_); (case side1 => exact z19_27); (case side2 => exact z19_28); rintro e w29 ⟨rfl, hi, hb, hk⟩; refine ⟨_, rfl, ?_⟩; replace BK549 := kb_ BK549 hk z19_10 NB549_0; replace HO562 := Aside0.mk (Kd.R_mono (Kd.R_keep (IsS61.apart (show IsS61 w0 _ g t579 t580 t581 from by repeat (first | (with_reducible first | exact HI0.out | apply IsS61.alloc | apply IsS61.drewN | apply IsS61.drew | apply IsS61.set_0 | apply IsS61.set_1 | apply IsS61.set_2 | refine IsS61.far ?_ NB0_549.out _ | refine IsS61.far ?_ NB0_555.out _) | exact HI0.out)) (by (with_reducible repeat (first | apply Kd.R_alloc | apply Kd.R_drewN | apply Kd.R_drew)); exact (Kd.R_mono (Kd.R_far (p := ⟨gb555, 7, none⟩) (Kd.R_types HO562.out BK555.out (by decide)) (fun _ hk => by first | exact hk.2 | trivial) (.int .i64 t578)) (fun _ h_ => h_.1))) (by decide)) hk (fun _ h => h.2)) (fun _ h => h.1)); replace BK555 := Aside0.mk (KeepBut.blk hk (g' := gb555) (o := .cells #[.int .i64 t550, .int .i64 t551, .int .i64 t556, .slice Ao19 t560.length co19, .int .i64 t566, .string t570, .string t574, .int .i64 t578, .int .i64 0, .int .i64 0] 31 (0, 0)) (by (with_reducible repeat (first | apply bp10_7 | refine blk_drewN ?_ _ | refine blk_drew ?_ | refine blk_alloc ?_ _)); exact BK555.out) NB555_0.out (by simp)); replace HK := Aside0.mk (KeepBut.trans z19_6 hk (.inl rfl)); replace HB := Aside0.mk (hb); replace HI0 := Aside0.mk (hi); have hcz30 := bc10 BK555.out; have hnb31 := NB549_0.out; have hnc31 := NB0_549.out; have hcz32 := bc10 BK549.out))
 refine bodyPost_ret (results_cell_row rfl _ _ gb549 31 #[.int .i64 t550, .int .i64 t551, .int .i64 t556, .slice Ao19 t560.length co19, .int .i64 t566, .string t570, .string t574, .int .i64 t578, .int .i64 t582, .int .i64 t583] (0, 0) _ rfl (by (with_reducible repeat (first | apply bpa10 | apply blk_far (hp := NB549_555.out) | refine blk_drewN ?_ _ | refine blk_drew ?_ | refine blk_alloc ?_ _)); exact BK549.out) Try.underlying31 rfl z19_20) rfl ?_
 exact ⟨_, z19_18, by (with_reducible repeat (first | apply Kd.R_alloc | apply Kd.R_drewN | apply Kd.R_drew)); apply Kd.R_mono; (with_reducible repeat (first | apply Kd.R_far | apply Kd.R_alloc | apply Kd.R_drewN | apply Kd.R_drew)); exact Kd.R_types (Kd.R_types HO562.out BK555.out (by decide)) BK549.out (by decide); all_goals (intro _ hk; first | exact trivial | exact hk.2 | trivial | exact hk.1.2), by repeat (first | (with_reducible first | exact HI0.out | apply IsS61.alloc | apply IsS61.drewN | apply IsS61.drew | apply IsS61.set_0 | apply IsS61.set_1 | apply IsS61.set_2 | refine IsS61.far ?_ NB0_549.out _ | refine IsS61.far ?_ NB0_555.out _) | exact HI0.out), by repeat (first | (with_reducible first | exact HB.out | apply below_alloc | apply pw_below_drewN | apply below_drew1 | refine below_set ?_ (IsS61.ge HI0.out) | refine below_set ?_ GE549.out | refine below_set ?_ GE555.out) | exact HB.out), z19_6⟩
def spec_ReadAct.j0 : Nat → ByteArray → Int → Bool → Option (Int × Int × Int × List Int × Int × ByteArray × ByteArray × Int × Int × Int × Int × Bool)
  | 0, _, _, _ => none
  | k + 1, x0, x1, x18 => if x18 = true then (some (0, 0, 0, ([] : List Int), 0, (⟨#[]⟩ : ByteArray), (⟨#[]⟩ : ByteArray), 0, 0, 0, 0, false)) else ((spec_l05Read_act.f k x0 x1 false).bind fun bt589 => ((spec_ActText.f k bt589.1 bt589.2.1 bt589.2.2.1 bt589.2.2.2.1 bt589.2.2.2.2.1 bt589.2.2.2.2.2.1 bt589.2.2.2.2.2.2.1 bt589.2.2.2.2.2.2.2.1 bt589.2.2.2.2.2.2.2.2.1 bt589.2.2.2.2.2.2.2.2.2.1).bind fun bt605 => (if bt589.2.2.2.2.2.2.2.2.2.2.2.2 = true then (some (0, 0, 0, ([] : List Int), 0, (⟨#[]⟩ : ByteArray), (⟨#[]⟩ : ByteArray), 0, 0, 0, 0, false)) else (if bt605.2 = true then (if 0 ≤ x1 then (if x1 ≤ bt589.2.2.2.2.2.2.2.2.2.2.2.1 then (if bt589.2.2.2.2.2.2.2.2.2.2.2.1 ≤ (x0.size : Int) then (if bt605.1.toList = (x0.extract (x1 : Int).toNat (bt589.2.2.2.2.2.2.2.2.2.2.2.1 : Int).toNat).toList then (some (bt589.1, bt589.2.1, bt589.2.2.1, bt589.2.2.2.1, bt589.2.2.2.2.1, bt589.2.2.2.2.2.1, bt589.2.2.2.2.2.2.1, bt589.2.2.2.2.2.2.2.1, bt589.2.2.2.2.2.2.2.2.1, bt589.2.2.2.2.2.2.2.2.2.1, bt589.2.2.2.2.2.2.2.2.2.2.2.1, true)) else (some (0, 0, 0, ([] : List Int), 0, (⟨#[]⟩ : ByteArray), (⟨#[]⟩ : ByteArray), 0, 0, 0, 0, false))) else (none)) else (none)) else (none)) else (some (0, 0, 0, ([] : List Int), 0, (⟨#[]⟩ : ByteArray), (⟨#[]⟩ : ByteArray), 0, 0, 0, 0, false))))))
def spec_ReadAct.f (k : Nat) (a0 : ByteArray) (a1 : Int) : Option (Int × Int × Int × List Int × Int × ByteArray × ByteArray × Int × Int × Int × Int × Bool) := if a1 < 0 then (spec_ReadAct.j0 k a0 a1 true) else (spec_ReadAct.j0 k a0 a1 (decide (a1 > (a0.size : Int))))
def spec_ReadAct.T8 : Bool × List (List Nat × List Nat) := (true, [([], []), ([], []), ([1], [1]), ([2], [2]), ([3], [3]), ([0, 0], [0]), ([4, 5, 0, 1, 2, 3, 4, 5], [4]), ([6, 0, 1, 2, 3, 4, 5, 6], [])])
def spec_ReadAct.B8 : List Nat := [0, 0, 2, 6, 14, 1, 63, 127]
theorem spec_ReadAct.tab8 : rtab .any (opsOf Try.f12 8) = spec_ReadAct.T8 := by kernel_rfl
theorem spec_ReadAct.bits8 : waitsOk spec_ReadAct.T8.2 spec_ReadAct.B8 = true := by kernel_rfl
set_option maxHeartbeats 8000000 in
set_option maxRecDepth 100000 in
theorem spec_ReadAct.calls (k : Nat) (a0 : ByteArray) (a1 : Int) (r1 : Int) (r2 : Int) (r3 : Int) (r4 : List Int) (r5 : Int) (r6 : ByteArray) (r7 : ByteArray) (r8 : Int) (r9 : Int) (r10 : Int) (r11 : Int) (r12 : Bool) (w : World) (h : spec_ReadAct.f k a0 a1 = some (r1, r2, r3, r4, r5, r6, r7, r8, r9, r10, r11, r12)) :
  Calls Try.prog 12 #[.string a0, .int .i64 a1] w fun e w' => ∃ v3_ : Value, e = .returned (.tuple #[.agg #[.int .i64 r1, .int .i64 r2, .int .i64 r3, v3_, .int .i64 r5, .string r6, .string r7, .int .i64 r8, .int .i64 r9, .int .i64 r10], .int .i64 r11, .bool r12]) ∧ Kd.R (Kd.int .i64) 3 w' w.heap.size (fun _ => True) v3_ r4 ∧ Below w.heap.size w w' := by
 have hu31 := Try.underlying31
 have hu61 := Try.underlying61
 have HB := Aside0.mk (Below.refl w.heap.size w)
 have H := h
 unfold spec_ReadAct.f at H
 clear h
 have HC3 := Aside0.mk H
 clear H
 go_enter Try.func12, Try.ntmps12
 go_upto_region 1 with (first | ((with_reducible refine gate_dst (N := 4) rfl ?_); (try (refine gate_guard (by rfl) ?_; dsimp only)); refine box_event ?hg (N := 4) ?hd (cs := #[.int .i64 0, .int .i64 0, .int .i64 0, .slice none 0 0, .int .i64 0, .string (⟨#[]⟩ : ByteArray), .string (⟨#[]⟩ : ByteArray), .int .i64 0, .int .i64 0, .int .i64 0]) (t := 31) ?hr ?_; (case hd => rfl); (case hg => rfl); (case hr => first | (go_simp; done) | (go_simp; rfl)); intro gb587 hg w4 hbox hb; have BK587 := Aside0.mk (hbox); have GW587 := gw_ w z19_26 hg; have GE587 := gw_ w z19_26 hg; replace HB := Aside0.mk (below_step z19_26 hb); clear hb hbox hg))
 (try simp only [Act.put, List.setIfInBounds_toArray, List.set_cons_zero, List.set_cons_succ])
 go_cut [18] (fun v18 wc => ∃ (kq : Nat) (x18_2 : Bool), v18 = .bool x18_2 ∧ Aside0 (spec_ReadAct.j0 kq a0 a1 x18_2 = some (r1, r2, r3, r4, r5, r6, r7, r8, r9, r10, r11, r12)) ∧ Aside0 (kq ≤ k) ∧ Aside0 (wc.heap[gb587]? = some (.cells #[.int .i64 0, .int .i64 0, .int .i64 0, (.slice none 0 0), .int .i64 0, .string (⟨#[]⟩ : ByteArray), .string (⟨#[]⟩ : ByteArray), .int .i64 0, .int .i64 0, .int .i64 0] 31 (0, 0))) ∧ Aside0 (Below w.heap.size w wc))
 case first =>
  have H := HC3.out
  clear HC3
  by_cases c5 : a1 < 0
  ·
   rw [if_pos c5] at H
   have c5b0 : decide (a1 < 0) = true := decide_eq_true c5
   clear c5
   (first | rw [c5b0] | (simp only [i64_w, i32_w]; rw [c5b0]) | skip)
   have H' := Aside0.mk H
   clear H
   go_wp2
   go_meet
   case rel => exact ⟨_, (true), (by first | rfl | (simp; done) | (simp [*]; done)), H', ⟨by first | omega | exact Nat.le_refl _⟩, ⟨z19_3⟩, ⟨z19_5⟩⟩
  rw [if_neg c5] at H
  have c5b0 : decide (a1 < 0) = false := decide_eq_false c5
  clear c5
  (first | rw [c5b0] | (simp only [i64_w, i32_w]; rw [c5b0]) | skip)
  have H' := Aside0.mk H
  clear H
  go_wp2
  go_meet
  case rel => exact ⟨_, (decide (a1 > (a0.size : Int))), (by first | rfl | (simp; done) | (simp [*]; done)), H', ⟨by first | omega | exact Nat.le_refl _⟩, ⟨z19_3⟩, ⟨z19_5⟩⟩
 case rest =>
  clear HC3
  try clear c1
  try clear p2
  try clear c5
  try clear c5b0
  obtain ⟨kq, x18_2, rfl, HA, HJ2, BK587, HB⟩ := hcut
  cases kq with
  | zero => exact absurd HA.out (by simp [spec_ReadAct.j0])
  | succ kj2 =>
   have H := HA.out
   clear HA
   simp only [spec_ReadAct.j0] at H
   by_cases c6 : x18_2 = true
   ·
    subst c6
    rw [if_pos rfl] at H
    simp only [Option.some.injEq, Prod.mk.injEq] at H
    obtain ⟨rfl, rfl, rfl, rfl, rfl, rfl, rfl, rfl, rfl, rfl, rfl, rfl⟩ := H
    have hcz7 := bc10 BK587.out
    go_wp2
    refine bodyPost_ret (results_ctt rfl _ _ gb587 31 #[.int .i64 0, .int .i64 0, .int .i64 0, .slice none 0 0, .int .i64 0, .string (⟨#[]⟩ : ByteArray), .string (⟨#[]⟩ : ByteArray), .int .i64 0, .int .i64 0, .int .i64 0] (0, 0) _ rfl z19_0 Try.underlying31 rfl z19_20) rfl ?_
    exact ⟨_, z19_18, z19_22, z19_5⟩
   replace c6 := Bool.eq_false_iff.mpr c6
   subst c6
   rw [if_neg (show ¬ (false = true) by decide)] at H
   replace H := Option.bind_eq_some_iff.mp H
   obtain ⟨⟨t589, t590, t591, t592, t595, t596, t597, t598, t599, t600, t601, t602, t603⟩, A80, H⟩ := H
   (try dsimp only at H)
   have A8 := Aside0.mk A80
   clear A80
   replace H := Option.bind_eq_some_iff.mp H
   obtain ⟨⟨t605, t606⟩, A90, H⟩ := H
   (try dsimp only at H)
   have A9 := Aside0.mk A90
   clear A90
   by_cases c10 : t603 = true
   ·
    subst c10
    rw [if_pos rfl] at H
    simp only [Option.some.injEq, Prod.mk.injEq] at H
    obtain ⟨rfl, rfl, rfl, rfl, rfl, rfl, rfl, rfl, rfl, rfl, rfl, rfl⟩ := H
    go_wp2_with (first | ((with_reducible refine gate_dst (N := 23) rfl ?_); (try (refine gate_guard (by rfl) ?_; dsimp only)); refine box_event ?hg (N := 23) ?hd (cs := #[.string a0, .int .i64 a1, .bool false]) (t := 61) ?hr ?_; (case hd => rfl); (case hg => rfl); (case hr => first | (go_simp; done) | (go_simp; rfl)); intro gb588 hg w11 hbox hb; have BK588 := Aside0.mk (hbox); have GW588 := gw_ w z19_5 hg; have GE588 := gw_ w z19_5 hg; replace HB := Aside0.mk (below_step z19_5 hb); have NB587_588 := nb_ BK587 z19_3 hg; have NB588_587 := nc_ BK587 z19_3 hg; replace BK587 := bb_ BK587 z19_3 hb; clear hb hbox hg) | ((with_reducible refine gate_callee (f := 37) rfl ?_); refine goesL_ (some 25) rfl rfl Try.func37 z19_20 rfl #[.pointer (some ⟨gb588, 0, none⟩)] rfl z19_8 ?_; (with_reducible refine (spec_l05Read_act.calls kj2 gb588 a0 a1 false t589 t590 t591 t592 t595 t596 t597 t598 t599 t600 t601 t602 true w _ ?side1 ?side2 A8.out).mono ?_); (case side1 => exact ⟨z19_23, GW588.out⟩); (case side2 => exact z19_4); rintro e w12 ⟨v593, rfl, ho0, hi, hb, hk⟩; refine ⟨_, rfl, ?_⟩; replace BK587 := kb_ BK587 hk z19_3 NB587_588; have HO594 := Aside0.mk (Kd.R_lower ho0 (below_size z19_4)); replace HB := Aside0.mk (hb); have HI588 := Aside0.mk (hi); clear BK588; (try clear ho0)) | ((with_reducible refine gate_dst (N := 8) rfl ?_); (try (refine gate_guard (by rfl) ?_; dsimp only)); refine box_event ?hg (N := 8) ?hd (cs := #[.int .i64 0, .int .i64 0, .int .i64 0, .slice none 0 0, .int .i64 0, .string (⟨#[]⟩ : ByteArray), .string (⟨#[]⟩ : ByteArray), .int .i64 0, .int .i64 0, .int .i64 0]) (t := 31) ?hr ?_; (case hd => rfl); (case hg => rfl); (case hr => first | (go_simp; done) | (go_simp; rfl)); intro gb604 hg w13 hbox hb; replace HO594 := Aside0.mk (Kd.R_below z19_25 hb); have BK604 := Aside0.mk (hbox); have GW604 := gw_ w z19_4 hg; have GE604 := gw_ w z19_4 hg; replace HB := Aside0.mk (below_step z19_4 hb); have NB587_604 := nb_ BK587 z19_3 hg; have NB604_587 := nc_ BK587 z19_3 hg; replace BK587 := bb_ BK587 z19_3 hb; have NB588_604 := Aside0.mk ((by rw [hg]; exact Nat.ne_of_lt (IsS61.lt (show IsS61 w _ gb588 t601 t602 true from by repeat (first | (with_reducible first | exact HI588.out | apply IsS61.alloc | apply IsS61.drewN | apply IsS61.drew | apply IsS61.set_0 | apply IsS61.set_1 | apply IsS61.set_2 | refine IsS61.far ?_ NB588_587.out _) | exact HI588.out))) : gb588 ≠ gb604)); have NB604_588 := Aside0.mk ((by rw [hg]; exact Nat.ne_of_gt (IsS61.lt (show IsS61 w _ gb588 t601 t602 true from by repeat (first | (with_reducible first | exact HI588.out | apply IsS61.alloc | apply IsS61.drewN | apply IsS61.drew | apply IsS61.set_0 | apply IsS61.set_1 | apply IsS61.set_2 | refine IsS61.far ?_ NB588_587.out _) | exact HI588.out))) : gb604 ≠ gb588)); replace HI588 := Aside0.mk (IsS61.below z19_19 hb); clear hb hbox hg; have hnb14 := NB604_587.out; have hnc14 := NB587_604.out; have hnb15 := NB604_588.out; have hnc15 := NB588_604.out; have hcz16 := bc10 BK604.out; obtain ⟨Ao17, co17, eo17⟩ := Kd.R_slice HO594.out; subst eo17) | ((with_reducible refine gate_callee (f := 35) rfl ?_); refine goesL_ (some 28) rfl rfl Try.func35 z19_20 rfl #[.agg #[.int .i64 t589, .int .i64 t590, .int .i64 t591, .slice Ao17 t592.length co17, .int .i64 t595, .string t596, .string t597, .int .i64 t598, .int .i64 t599, .int .i64 t600]] rfl z19_8 ?_; (with_reducible refine (spec_ActText.calls kj2 t589 t590 t591 _ _ t592 t595 t596 t597 t598 t599 t600 t605 t606 _ ?side1 ?side2 A9.out).mono ?_); (case side1 => refine (Kd.R_reads' (e := 3) (base := w.heap.size) (ok := fun k_ => True) (n := t592.length) (c := co17) ?_).2.2; exact z19_14); (case side2 => exact (Kd.R_reads' HO594.out).2.1); rintro e w18 ⟨rfl, hb⟩; refine ⟨_, rfl, ?_⟩; replace HO594 := Aside0.mk (Kd.R_below z19_14 hb); replace BK587 := bb_ BK587 z19_1 hb; replace BK604 := Aside0.mk (blk_below (g := gb604) (o := .cells #[.int .i64 t589, .int .i64 t590, .int .i64 t591, .slice Ao17 t592.length co17, .int .i64 t595, .string t596, .string t597, .int .i64 t598, .int .i64 t599, .int .i64 t600] 31 (0, 0)) (by (with_reducible repeat (first | apply bpa10 | refine blk_drewN ?_ _ | refine blk_drew ?_ | refine blk_alloc ?_ _)); exact BK604.out) hb); replace HB := Aside0.mk (below_step z19_7 hb); replace HI588 := Aside0.mk (IsS61.below (show IsS61 w ((((((((((w13.setCell ⟨gb604, 0, none⟩ (.int .i64 t589)).setCell ⟨gb604, 1, none⟩ (.int .i64 t590)).setCell ⟨gb604, 2, none⟩ (.int .i64 t591)).setCell ⟨gb604, 3, none⟩ (.slice Ao17 t592.length co17)).setCell ⟨gb604, 4, none⟩ (.int .i64 t595)).setCell ⟨gb604, 5, none⟩ (.string t596)).setCell ⟨gb604, 6, none⟩ (.string t597)).setCell ⟨gb604, 7, none⟩ (.int .i64 t598)).setCell ⟨gb604, 8, none⟩ (.int .i64 t599)).setCell ⟨gb604, 9, none⟩ (.int .i64 t600)) gb588 t601 t602 true from by repeat (first | (with_reducible first | exact HI588.out | apply IsS61.alloc | apply IsS61.drewN | apply IsS61.drew | apply IsS61.set_0 | apply IsS61.set_1 | apply IsS61.set_2 | refine IsS61.far ?_ NB588_587.out _ | refine IsS61.far ?_ NB588_604.out _) | exact HI588.out)) hb); obtain ⟨HGz19, hgz19⟩ := HI588.out; have hcz19_0 := cellS61_0 HGz19; have hcz19_1 := cellS61_1 HGz19; have hcz19_2 := cellS61_2 HGz19; have hfz19_0 := blk_frozen HGz19 0; have hfz19_1 := blk_frozen HGz19 1; have hfz19_2 := blk_frozen HGz19 2; clear HGz19 hgz19; have hnb20 := NB587_588.out; have hnc20 := NB588_587.out; have hcz21 := bc10 BK587.out))
    refine bodyPost_ret (results_ctt rfl _ _ gb587 31 #[.int .i64 0, .int .i64 0, .int .i64 0, .slice none 0 0, .int .i64 0, .string (⟨#[]⟩ : ByteArray), .string (⟨#[]⟩ : ByteArray), .int .i64 0, .int .i64 0, .int .i64 0] (0, 0) _ rfl z19_0 Try.underlying31 rfl z19_20) rfl ?_
    exact ⟨_, z19_18, z19_22, z19_7⟩
   replace c10 := Bool.eq_false_iff.mpr c10
   subst c10
   rw [if_neg (show ¬ (false = true) by decide)] at H
   by_cases c22 : t606 = true
   rotate_left
   ·
    replace c22 := Bool.eq_false_iff.mpr c22
    subst c22
    rw [if_neg (show ¬ (false = true) by decide)] at H
    simp only [Option.some.injEq, Prod.mk.injEq] at H
    obtain ⟨rfl, rfl, rfl, rfl, rfl, rfl, rfl, rfl, rfl, rfl, rfl, rfl⟩ := H
    go_wp2_with (first | ((with_reducible refine gate_dst (N := 23) rfl ?_); (try (refine gate_guard (by rfl) ?_; dsimp only)); refine box_event ?hg (N := 23) ?hd (cs := #[.string a0, .int .i64 a1, .bool false]) (t := 61) ?hr ?_; (case hd => rfl); (case hg => rfl); (case hr => first | (go_simp; done) | (go_simp; rfl)); intro gb588 hg w58 hbox hb; have BK588 := Aside0.mk (hbox); have GW588 := gw_ w z19_5 hg; have GE588 := gw_ w z19_5 hg; replace HB := Aside0.mk (below_step z19_5 hb); have NB587_588 := nb_ BK587 z19_3 hg; have NB588_587 := nc_ BK587 z19_3 hg; replace BK587 := bb_ BK587 z19_3 hb; clear hb hbox hg) | ((with_reducible refine gate_callee (f := 37) rfl ?_); refine goesL_ (some 25) rfl rfl Try.func37 z19_20 rfl #[.pointer (some ⟨gb588, 0, none⟩)] rfl z19_8 ?_; (with_reducible refine (spec_l05Read_act.calls kj2 gb588 a0 a1 false t589 t590 t591 t592 t595 t596 t597 t598 t599 t600 t601 t602 false w _ ?side1 ?side2 A8.out).mono ?_); (case side1 => exact ⟨z19_23, GW588.out⟩); (case side2 => exact z19_4); rintro e w59 ⟨v593, rfl, ho0, hi, hb, hk⟩; refine ⟨_, rfl, ?_⟩; replace BK587 := kb_ BK587 hk z19_3 NB587_588; have HO594 := Aside0.mk (Kd.R_lower ho0 (below_size z19_4)); replace HB := Aside0.mk (hb); have HI588 := Aside0.mk (hi); clear BK588; (try clear ho0)) | ((with_reducible refine gate_dst (N := 8) rfl ?_); (try (refine gate_guard (by rfl) ?_; dsimp only)); refine box_event ?hg (N := 8) ?hd (cs := #[.int .i64 0, .int .i64 0, .int .i64 0, .slice none 0 0, .int .i64 0, .string (⟨#[]⟩ : ByteArray), .string (⟨#[]⟩ : ByteArray), .int .i64 0, .int .i64 0, .int .i64 0]) (t := 31) ?hr ?_; (case hd => rfl); (case hg => rfl); (case hr => first | (go_simp; done) | (go_simp; rfl)); intro gb604 hg w60 hbox hb; replace HO594 := Aside0.mk (Kd.R_below z19_25 hb); have BK604 := Aside0.mk (hbox); have GW604 := gw_ w z19_4 hg; have GE604 := gw_ w z19_4 hg; replace HB := Aside0.mk (below_step z19_4 hb); have NB587_604 := nb_ BK587 z19_3 hg; have NB604_587 := nc_ BK587 z19_3 hg; replace BK587 := bb_ BK587 z19_3 hb; have NB588_604 := Aside0.mk ((by rw [hg]; exact Nat.ne_of_lt (IsS61.lt (show IsS61 w _ gb588 t601 t602 false from by repeat (first | (with_reducible first | exact HI588.out | apply IsS61.alloc | apply IsS61.drewN | apply IsS61.drew | apply IsS61.set_0 | apply IsS61.set_1 | apply IsS61.set_2 | refine IsS61.far ?_ NB588_587.out _) | exact HI588.out))) : gb588 ≠ gb604)); have NB604_588 := Aside0.mk ((by rw [hg]; exact Nat.ne_of_gt (IsS61.lt (show IsS61 w _ gb588 t601 t602 false from by repeat (first | (with_reducible first | exact HI588.out | apply IsS61.alloc | apply IsS61.drewN | apply IsS61.drew | apply IsS61.set_0 | apply IsS61.set_1 | apply IsS61.set_2 | refine IsS61.far ?_ NB588_587.out _) | exact HI588.out))) : gb604 ≠ gb588)); replace HI588 := Aside0.mk (IsS61.below z19_19 hb); clear hb hbox hg; have hnb61 := NB604_587.out; have hnc61 := NB587_604.out; have hnb62 := NB604_588.out; have hnc62 := NB588_604.out; have hcz63 := bc10 BK604.out; obtain ⟨Ao64, co64, eo64⟩ := Kd.R_slice HO594.out; subst eo64) | ((with_reducible refine gate_callee (f := 35) rfl ?_); refine goesL_ (some 28) rfl rfl Try.func35 z19_20 rfl #[.agg #[.int .i64 t589, .int .i64 t590, .int .i64 t591, .slice Ao64 t592.length co64, .int .i64 t595, .string t596, .string t597, .int .i64 t598, .int .i64 t599, .int .i64 t600]] rfl z19_8 ?_; (with_reducible refine (spec_ActText.calls kj2 t589 t590 t591 _ _ t592 t595 t596 t597 t598 t599 t600 t605 false _ ?side1 ?side2 A9.out).mono ?_); (case side1 => refine (Kd.R_reads' (e := 3) (base := w.heap.size) (ok := fun k_ => True) (n := t592.length) (c := co64) ?_).2.2; exact z19_11); (case side2 => exact (Kd.R_reads' HO594.out).2.1); rintro e w65 ⟨rfl, hb⟩; refine ⟨_, rfl, ?_⟩; replace HO594 := Aside0.mk (Kd.R_below z19_11 hb); replace BK587 := bb_ BK587 z19_1 hb; replace BK604 := Aside0.mk (blk_below (g := gb604) (o := .cells #[.int .i64 t589, .int .i64 t590, .int .i64 t591, .slice Ao64 t592.length co64, .int .i64 t595, .string t596, .string t597, .int .i64 t598, .int .i64 t599, .int .i64 t600] 31 (0, 0)) (by (with_reducible repeat (first | apply bpa10 | refine blk_drewN ?_ _ | refine blk_drew ?_ | refine blk_alloc ?_ _)); exact BK604.out) hb); replace HB := Aside0.mk (below_step z19_7 hb); replace HI588 := Aside0.mk (IsS61.below (show IsS61 w ((((((((((w60.setCell ⟨gb604, 0, none⟩ (.int .i64 t589)).setCell ⟨gb604, 1, none⟩ (.int .i64 t590)).setCell ⟨gb604, 2, none⟩ (.int .i64 t591)).setCell ⟨gb604, 3, none⟩ (.slice Ao64 t592.length co64)).setCell ⟨gb604, 4, none⟩ (.int .i64 t595)).setCell ⟨gb604, 5, none⟩ (.string t596)).setCell ⟨gb604, 6, none⟩ (.string t597)).setCell ⟨gb604, 7, none⟩ (.int .i64 t598)).setCell ⟨gb604, 8, none⟩ (.int .i64 t599)).setCell ⟨gb604, 9, none⟩ (.int .i64 t600)) gb588 t601 t602 false from by repeat (first | (with_reducible first | exact HI588.out | apply IsS61.alloc | apply IsS61.drewN | apply IsS61.drew | apply IsS61.set_0 | apply IsS61.set_1 | apply IsS61.set_2 | refine IsS61.far ?_ NB588_587.out _ | refine IsS61.far ?_ NB588_604.out _) | exact HI588.out)) hb); obtain ⟨HGz66, hgz66⟩ := HI588.out; have hcz66_0 := cellS61_0 HGz66; have hcz66_1 := cellS61_1 HGz66; have hcz66_2 := cellS61_2 HGz66; have hfz66_0 := blk_frozen HGz66 0; have hfz66_1 := blk_frozen HGz66 1; have hfz66_2 := blk_frozen HGz66 2; clear HGz66 hgz66; have hnb67 := NB587_588.out; have hnc67 := NB588_587.out; have hcz68 := bc10 BK587.out))
    refine bodyPost_ret (results_ctt rfl _ _ gb587 31 #[.int .i64 0, .int .i64 0, .int .i64 0, .slice none 0 0, .int .i64 0, .string (⟨#[]⟩ : ByteArray), .string (⟨#[]⟩ : ByteArray), .int .i64 0, .int .i64 0, .int .i64 0] (0, 0) _ rfl z19_0 Try.underlying31 rfl z19_20) rfl ?_
    exact ⟨_, z19_18, z19_22, z19_7⟩
   subst c22
   rw [if_pos rfl] at H
   by_cases c23 : 0 ≤ a1
   rotate_left
   ·
    rw [if_neg c23] at H
    exact absurd H (by simp)
   rw [if_pos c23] at H
   have c23b0 := eq_true c23
   have c23b1 : decide (0 ≤ a1) = true := decide_eq_true c23
   clear c23
   by_cases c24 : a1 ≤ t602
   rotate_left
   ·
    rw [if_neg c24] at H
    exact absurd H (by simp)
   rw [if_pos c24] at H
   have c24b0 := eq_true c24
   have c24b1 : decide (a1 ≤ t602) = true := decide_eq_true c24
   clear c24
   by_cases c25 : t602 ≤ (a0.size : Int)
   rotate_left
   ·
    rw [if_neg c25] at H
    exact absurd H (by simp)
   rw [if_pos c25] at H
   have c25b0 := eq_true c25
   have c25b1 : decide (t602 ≤ (a0.size : Int)) = true := decide_eq_true c25
   clear c25
   by_cases c26 : t605.toList = (a0.extract (a1 : Int).toNat (t602 : Int).toNat).toList
   rotate_left
   ·
    rw [if_neg c26] at H
    have c26b0 : (t605.toList == (a0.extract (a1 : Int).toNat (t602 : Int).toNat).toList) = false := beq_eq_false_iff_ne.mpr c26
    have c26b1 : (t605.toList != (a0.extract (a1 : Int).toNat (t602 : Int).toNat).toList) = true := bne_iff_ne.mpr c26
    simp only [Option.some.injEq, Prod.mk.injEq] at H
    obtain ⟨rfl, rfl, rfl, rfl, rfl, rfl, rfl, rfl, rfl, rfl, rfl, rfl⟩ := H
    go_wp2_with (first | ((with_reducible refine gate_dst (N := 23) rfl ?_); (try (refine gate_guard (by rfl) ?_; dsimp only)); refine box_event ?hg (N := 23) ?hd (cs := #[.string a0, .int .i64 a1, .bool false]) (t := 61) ?hr ?_; (case hd => rfl); (case hg => rfl); (case hr => first | (go_simp; done) | (go_simp; rfl)); intro gb588 hg w47 hbox hb; have BK588 := Aside0.mk (hbox); have GW588 := gw_ w z19_5 hg; have GE588 := gw_ w z19_5 hg; replace HB := Aside0.mk (below_step z19_5 hb); have NB587_588 := nb_ BK587 z19_3 hg; have NB588_587 := nc_ BK587 z19_3 hg; replace BK587 := bb_ BK587 z19_3 hb; clear hb hbox hg) | ((with_reducible refine gate_callee (f := 37) rfl ?_); refine goesL_ (some 25) rfl rfl Try.func37 z19_20 rfl #[.pointer (some ⟨gb588, 0, none⟩)] rfl z19_8 ?_; (with_reducible refine (spec_l05Read_act.calls kj2 gb588 a0 a1 false t589 t590 t591 t592 t595 t596 t597 t598 t599 t600 t601 t602 false w _ ?side1 ?side2 A8.out).mono ?_); (case side1 => exact ⟨z19_23, GW588.out⟩); (case side2 => exact z19_4); rintro e w48 ⟨v593, rfl, ho0, hi, hb, hk⟩; refine ⟨_, rfl, ?_⟩; replace BK587 := kb_ BK587 hk z19_3 NB587_588; have HO594 := Aside0.mk (Kd.R_lower ho0 (below_size z19_4)); replace HB := Aside0.mk (hb); have HI588 := Aside0.mk (hi); clear BK588; (try clear ho0)) | ((with_reducible refine gate_dst (N := 8) rfl ?_); (try (refine gate_guard (by rfl) ?_; dsimp only)); refine box_event ?hg (N := 8) ?hd (cs := #[.int .i64 0, .int .i64 0, .int .i64 0, .slice none 0 0, .int .i64 0, .string (⟨#[]⟩ : ByteArray), .string (⟨#[]⟩ : ByteArray), .int .i64 0, .int .i64 0, .int .i64 0]) (t := 31) ?hr ?_; (case hd => rfl); (case hg => rfl); (case hr => first | (go_simp; done) | (go_simp; rfl)); intro gb604 hg w49 hbox hb; replace HO594 := Aside0.mk (Kd.R_below z19_25 hb); have BK604 := Aside0.mk (hbox); have GW604 := gw_ w z19_4 hg; have GE604 := gw_ w z19_4 hg; replace HB := Aside0.mk (below_step z19_4 hb); have NB587_604 := nb_ BK587 z19_3 hg; have NB604_587 := nc_ BK587 z19_3 hg; replace BK587 := bb_ BK587 z19_3 hb; have NB588_604 := Aside0.mk ((by rw [hg]; exact Nat.ne_of_lt (IsS61.lt (show IsS61 w _ gb588 t601 t602 false from by repeat (first | (with_reducible first | exact HI588.out | apply IsS61.alloc | apply IsS61.drewN | apply IsS61.drew | apply IsS61.set_0 | apply IsS61.set_1 | apply IsS61.set_2 | refine IsS61.far ?_ NB588_587.out _) | exact HI588.out))) : gb588 ≠ gb604)); have NB604_588 := Aside0.mk ((by rw [hg]; exact Nat.ne_of_gt (IsS61.lt (show IsS61 w _ gb588 t601 t602 false from by repeat (first | (with_reducible first | exact HI588.out | apply IsS61.alloc | apply IsS61.drewN | apply IsS61.drew | apply IsS61.set_0 | apply IsS61.set_1 | apply IsS61.set_2 | refine IsS61.far ?_ NB588_587.out _) | exact HI588.out))) : gb604 ≠ gb588)); replace HI588 := Aside0.mk (IsS61.below z19_19 hb); clear hb hbox hg; have hnb50 := NB604_587.out; have hnc50 := NB587_604.out; have hnb51 := NB604_588.out; have hnc51 := NB588_604.out; have hcz52 := bc10 BK604.out; obtain ⟨Ao53, co53, eo53⟩ := Kd.R_slice HO594.out; subst eo53) | ((with_reducible refine gate_callee (f := 35) rfl ?_); refine goesL_ (some 28) rfl rfl Try.func35 z19_20 rfl #[.agg #[.int .i64 t589, .int .i64 t590, .int .i64 t591, .slice Ao53 t592.length co53, .int .i64 t595, .string t596, .string t597, .int .i64 t598, .int .i64 t599, .int .i64 t600]] rfl z19_8 ?_; (with_reducible refine (spec_ActText.calls kj2 t589 t590 t591 _ _ t592 t595 t596 t597 t598 t599 t600 t605 true _ ?side1 ?side2 A9.out).mono ?_); (case side1 => refine (Kd.R_reads' (e := 3) (base := w.heap.size) (ok := fun k_ => True) (n := t592.length) (c := co53) ?_).2.2; exact z19_12); (case side2 => exact (Kd.R_reads' HO594.out).2.1); rintro e w54 ⟨rfl, hb⟩; refine ⟨_, rfl, ?_⟩; replace HO594 := Aside0.mk (Kd.R_below z19_12 hb); replace BK587 := bb_ BK587 z19_1 hb; replace BK604 := Aside0.mk (blk_below (g := gb604) (o := .cells #[.int .i64 t589, .int .i64 t590, .int .i64 t591, .slice Ao53 t592.length co53, .int .i64 t595, .string t596, .string t597, .int .i64 t598, .int .i64 t599, .int .i64 t600] 31 (0, 0)) (by (with_reducible repeat (first | apply bpa10 | refine blk_drewN ?_ _ | refine blk_drew ?_ | refine blk_alloc ?_ _)); exact BK604.out) hb); replace HB := Aside0.mk (below_step z19_7 hb); replace HI588 := Aside0.mk (IsS61.below (show IsS61 w ((((((((((w49.setCell ⟨gb604, 0, none⟩ (.int .i64 t589)).setCell ⟨gb604, 1, none⟩ (.int .i64 t590)).setCell ⟨gb604, 2, none⟩ (.int .i64 t591)).setCell ⟨gb604, 3, none⟩ (.slice Ao53 t592.length co53)).setCell ⟨gb604, 4, none⟩ (.int .i64 t595)).setCell ⟨gb604, 5, none⟩ (.string t596)).setCell ⟨gb604, 6, none⟩ (.string t597)).setCell ⟨gb604, 7, none⟩ (.int .i64 t598)).setCell ⟨gb604, 8, none⟩ (.int .i64 t599)).setCell ⟨gb604, 9, none⟩ (.int .i64 t600)) gb588 t601 t602 false from by repeat (first | (with_reducible first | exact HI588.out | apply IsS61.alloc | apply IsS61.drewN | apply IsS61.drew | apply IsS61.set_0 | apply IsS61.set_1 | apply IsS61.set_2 | refine IsS61.far ?_ NB588_587.out _ | refine IsS61.far ?_ NB588_604.out _) | exact HI588.out)) hb); obtain ⟨HGz55, hgz55⟩ := HI588.out; have hcz55_0 := cellS61_0 HGz55; have hcz55_1 := cellS61_1 HGz55; have hcz55_2 := cellS61_2 HGz55; have hfz55_0 := blk_frozen HGz55 0; have hfz55_1 := blk_frozen HGz55 1; have hfz55_2 := blk_frozen HGz55 2; clear HGz55 hgz55; have hnb56 := NB587_588.out; have hnc56 := NB588_587.out; have hcz57 := bc10 BK587.out))
    refine bodyPost_ret (results_ctt rfl _ _ gb587 31 #[.int .i64 0, .int .i64 0, .int .i64 0, .slice none 0 0, .int .i64 0, .string (⟨#[]⟩ : ByteArray), .string (⟨#[]⟩ : ByteArray), .int .i64 0, .int .i64 0, .int .i64 0] (0, 0) _ rfl z19_0 Try.underlying31 rfl z19_20) rfl ?_
    exact ⟨_, z19_18, z19_22, z19_7⟩
   rw [if_pos c26] at H
   have c26b0 : (t605.toList == (a0.extract (a1 : Int).toNat (t602 : Int).toNat).toList) = true := beq_iff_eq.mpr c26
   have c26b1 : (t605.toList != (a0.extract (a1 : Int).toNat (t602 : Int).toNat).toList) = false := bne_eq_false_iff_eq.mpr c26
   clear c26
   simp only [Option.some.injEq, Prod.mk.injEq] at H
   obtain ⟨rfl, rfl, rfl, rfl, rfl, rfl, rfl, rfl, rfl, rfl, rfl, rfl⟩ := H
   try go_wp2_with (first | ((with_reducible refine gate_dst (N := 23) rfl ?_); (try (refine gate_guard (by rfl) ?_; dsimp only)); refine box_event ?hg (N := 23) ?hd (cs := #[.string a0, .int .i64 a1, .bool false]) (t := 61) ?hr ?_; (case hd => rfl); (case hg => rfl); (case hr => first | (go_simp; done) | (go_simp; rfl)); intro gb588 hg w27 hbox hb; have BK588 := Aside0.mk (hbox); have GW588 := gw_ w z19_5 hg; have GE588 := gw_ w z19_5 hg; replace HB := Aside0.mk (below_step z19_5 hb); have NB587_588 := nb_ BK587 z19_3 hg; have NB588_587 := nc_ BK587 z19_3 hg; replace BK587 := bb_ BK587 z19_3 hb; clear hb hbox hg) | ((with_reducible refine gate_callee (f := 37) rfl ?_); refine goesL_ (some 25) rfl rfl Try.func37 z19_20 rfl #[.pointer (some ⟨gb588, 0, none⟩)] rfl z19_8 ?_; (with_reducible refine (spec_l05Read_act.calls kj2 gb588 a0 a1 false t589 t590 t591 t592 t595 t596 t597 t598 t599 t600 t601 t602 false w _ ?side1 ?side2 A8.out).mono ?_); (case side1 => exact ⟨z19_23, GW588.out⟩); (case side2 => exact z19_4); rintro e w28 ⟨v593, rfl, ho0, hi, hb, hk⟩; refine ⟨_, rfl, ?_⟩; replace BK587 := kb_ BK587 hk z19_3 NB587_588; have HO594 := Aside0.mk (Kd.R_lower ho0 (below_size z19_4)); replace HB := Aside0.mk (hb); have HI588 := Aside0.mk (hi); clear BK588; (try clear ho0)) | ((with_reducible refine gate_dst (N := 8) rfl ?_); (try (refine gate_guard (by rfl) ?_; dsimp only)); refine box_event ?hg (N := 8) ?hd (cs := #[.int .i64 0, .int .i64 0, .int .i64 0, .slice none 0 0, .int .i64 0, .string (⟨#[]⟩ : ByteArray), .string (⟨#[]⟩ : ByteArray), .int .i64 0, .int .i64 0, .int .i64 0]) (t := 31) ?hr ?_; (case hd => rfl); (case hg => rfl); (case hr => first | (go_simp; done) | (go_simp; rfl)); intro gb604 hg w29 hbox hb; replace HO594 := Aside0.mk (Kd.R_below z19_25 hb); have BK604 := Aside0.mk (hbox); have GW604 := gw_ w z19_4 hg; have GE604 := gw_ w z19_4 hg; replace HB := Aside0.mk (below_step z19_4 hb); have NB587_604 := nb_ BK587 z19_3 hg; have NB604_587 := nc_ BK587 z19_3 hg; replace BK587 := bb_ BK587 z19_3 hb; have NB588_604 := Aside0.mk ((by rw [hg]; exact Nat.ne_of_lt (IsS61.lt (show IsS61 w _ gb588 t601 t602 false from by repeat (first | (with_reducible first | exact HI588.out | apply IsS61.alloc | apply IsS61.drewN | apply IsS61.drew | apply IsS61.set_0 | apply IsS61.set_1 | apply IsS61.set_2 | refine IsS61.far ?_ NB588_587.out _) | exact HI588.out))) : gb588 ≠ gb604)); have NB604_588 := Aside0.mk ((by rw [hg]; exact Nat.ne_of_gt (IsS61.lt (show IsS61 w _ gb588 t601 t602 false from by repeat (first | (with_reducible first | exact HI588.out | apply IsS61.alloc | apply IsS61.drewN | apply IsS61.drew | apply IsS61.set_0 | apply IsS61.set_1 | apply IsS61.set_2 | refine IsS61.far ?_ NB588_587.out _) | exact HI588.out))) : gb604 ≠ gb588)); replace HI588 := Aside0.mk (IsS61.below z19_19 hb); clear hb hbox hg; have hnb30 := NB604_587.out; have hnc30 := NB587_604.out; have hnb31 := NB604_588.out; have hnc31 := NB588_604.out; have hcz32 := bc10 BK604.out; obtain ⟨Ao33, co33, eo33⟩ := Kd.R_slice HO594.out; subst eo33) | ((with_reducible refine gate_callee (f := 35) rfl ?_); refine goesL_ (some 28) rfl rfl Try.func35 z19_20 rfl #[.agg #[.int .i64 t589, .int .i64 t590, .int .i64 t591, .slice Ao33 t592.length co33, .int .i64 t595, .string t596, .string t597, .int .i64 t598, .int .i64 t599, .int .i64 t600]] rfl z19_8 ?_; (with_reducible refine (spec_ActText.calls kj2 t589 t590 t591 _ _ t592 t595 t596 t597 t598 t599 t600 t605 true _ ?side1 ?side2 A9.out).mono ?_); (case side1 => refine (Kd.R_reads' (e := 3) (base := w.heap.size) (ok := fun k_ => True) (n := t592.length) (c := co33) ?_).2.2; exact z19_13); (case side2 => exact (Kd.R_reads' HO594.out).2.1); rintro e w34 ⟨rfl, hb⟩; refine ⟨_, rfl, ?_⟩; replace HO594 := Aside0.mk (Kd.R_below z19_13 hb); replace BK587 := bb_ BK587 z19_1 hb; replace BK604 := Aside0.mk (blk_below (g := gb604) (o := .cells #[.int .i64 t589, .int .i64 t590, .int .i64 t591, .slice Ao33 t592.length co33, .int .i64 t595, .string t596, .string t597, .int .i64 t598, .int .i64 t599, .int .i64 t600] 31 (0, 0)) (by (with_reducible repeat (first | apply bpa10 | refine blk_drewN ?_ _ | refine blk_drew ?_ | refine blk_alloc ?_ _)); exact BK604.out) hb); replace HB := Aside0.mk (below_step z19_7 hb); replace HI588 := Aside0.mk (IsS61.below (show IsS61 w ((((((((((w29.setCell ⟨gb604, 0, none⟩ (.int .i64 t589)).setCell ⟨gb604, 1, none⟩ (.int .i64 t590)).setCell ⟨gb604, 2, none⟩ (.int .i64 t591)).setCell ⟨gb604, 3, none⟩ (.slice Ao33 t592.length co33)).setCell ⟨gb604, 4, none⟩ (.int .i64 t595)).setCell ⟨gb604, 5, none⟩ (.string t596)).setCell ⟨gb604, 6, none⟩ (.string t597)).setCell ⟨gb604, 7, none⟩ (.int .i64 t598)).setCell ⟨gb604, 8, none⟩ (.int .i64 t599)).setCell ⟨gb604, 9, none⟩ (.int .i64 t600)) gb588 t601 t602 false from by repeat (first | (with_reducible first | exact HI588.out | apply IsS61.alloc | apply IsS61.drewN | apply IsS61.drew | apply IsS61.set_0 | apply IsS61.set_1 | apply IsS61.set_2 | refine IsS61.far ?_ NB588_587.out _ | refine IsS61.far ?_ NB588_604.out _) | exact HI588.out)) hb); obtain ⟨HGz35, hgz35⟩ := HI588.out; have hcz35_0 := cellS61_0 HGz35; have hcz35_1 := cellS61_1 HGz35; have hcz35_2 := cellS61_2 HGz35; have hfz35_0 := blk_frozen HGz35 0; have hfz35_1 := blk_frozen HGz35 1; have hfz35_2 := blk_frozen HGz35 2; clear HGz35 hgz35))
   replace HO594 := Aside0.mk (Kd.R_drew HO594.out)
   replace BK587 := Aside0.mk (blk_drew BK587.out)
   replace BK604 := Aside0.mk (blk_drew BK604.out)
   replace HI588 := Aside0.mk (IsS61.drew HI588.out)
   replace HB := Aside0.mk (below_drew1 HB.out)
   refine start_ (n := 8) (S := fun w' => w'.cell? ⟨gb604, 0, none⟩ = some (.int .i64 t589) ∧ w'.cell? ⟨gb604, 1, none⟩ = some (.int .i64 t590) ∧ w'.cell? ⟨gb604, 2, none⟩ = some (.int .i64 t591) ∧ w'.cell? ⟨gb604, 3, none⟩ = some (.slice Ao33 t592.length co33) ∧ w'.cell? ⟨gb604, 4, none⟩ = some (.int .i64 t595) ∧ w'.cell? ⟨gb604, 5, none⟩ = some (.string t596) ∧ w'.cell? ⟨gb604, 6, none⟩ = some (.string t597) ∧ w'.cell? ⟨gb604, 7, none⟩ = some (.int .i64 t598) ∧ w'.cell? ⟨gb604, 8, none⟩ = some (.int .i64 t599) ∧ w'.cell? ⟨gb604, 9, none⟩ = some (.int .i64 t600) ∧ w'.cell? ⟨gb588, 0, none⟩ = some (.string t601) ∧ w'.cell? ⟨gb588, 1, none⟩ = some (.int .i64 t602) ∧ w'.cell? ⟨gb588, 2, none⟩ = some (.bool false)) (ds := []) mk19_17 z19_20 rfl rfl (jn10 BK604 ⟨(blk_cell HI588.out.1 0).trans rfl, (blk_cell HI588.out.1 1).trans rfl, (blk_cell HI588.out.1 2).trans rfl⟩) (fun hHeld => ?_); refine with_tabW spec_ReadAct.tab8 spec_ReadAct.bits8 (fun HT_ HW_ => ?_)
   generalize w34.drew = w36 at HO594 BK587 BK604 HI588 HB hHeld ⊢
   refine p_ (i := 1) (N := some 52) mk19_18 ?_ (hv := z19_15) (ha := z19_2)
   refine p_ (i := 2) (N := some 53) mk19_19 ?_ (hv := z19_15) (ha := z19_2)
   refine p_ (i := 3) (N := some 54) mk19_20 ?_ (hv := z19_15) (ha := z19_2)
   refine t_ (i := 0) (N := some 51) mk19_21 hHeld ?_ (ha := z19_2)
   refine t_ (i := 4) (N := some 55) mk19_22 hHeld ?_ (ha := z19_2)
   refine o_ (i := 5) (N := none) mk19_23 (fun K hK => ?_)
   have hs37 : w36.cell? ⟨gb587, 0, none⟩ = some (.int .i64 0) := bc_ BK587 0
   have hfs37 := blk_frozen BK587.out 0
   have hns37_1 := NB604_587.out
   have hms37_1 := NB587_604.out
   have hs38 : w36.cell? ⟨gb587, 1, none⟩ = some (.int .i64 0) := bc_ BK587 1
   have hfs38 := blk_frozen BK587.out 1
   have hns38_1 := NB604_587.out
   have hms38_1 := NB587_604.out
   have hs39 : w36.cell? ⟨gb587, 2, none⟩ = some (.int .i64 0) := bc_ BK587 2
   have hfs39 := blk_frozen BK587.out 2
   have hns39_1 := NB604_587.out
   have hms39_1 := NB587_604.out
   have hs40 : w36.cell? ⟨gb587, 3, none⟩ = some (.slice none 0 0) := bc_ BK587 3
   have hfs40 := blk_frozen BK587.out 3
   have hns40_1 := NB604_587.out
   have hms40_1 := NB587_604.out
   have hs41 : w36.cell? ⟨gb587, 4, none⟩ = some (.int .i64 0) := bc_ BK587 4
   have hfs41 := blk_frozen BK587.out 4
   have hns41_1 := NB604_587.out
   have hms41_1 := NB587_604.out
   have hs42 : w36.cell? ⟨gb587, 5, none⟩ = some (.string (⟨#[]⟩ : ByteArray)) := bc_ BK587 5
   have hfs42 := blk_frozen BK587.out 5
   have hns42_1 := NB604_587.out
   have hms42_1 := NB587_604.out
   have hs43 : w36.cell? ⟨gb587, 6, none⟩ = some (.string (⟨#[]⟩ : ByteArray)) := bc_ BK587 6
   have hfs43 := blk_frozen BK587.out 6
   have hns43_1 := NB604_587.out
   have hms43_1 := NB587_604.out
   have hs44 : w36.cell? ⟨gb587, 7, none⟩ = some (.int .i64 0) := bc_ BK587 7
   have hfs44 := blk_frozen BK587.out 7
   have hns44_1 := NB604_587.out
   have hms44_1 := NB587_604.out
   have hs45 : w36.cell? ⟨gb587, 8, none⟩ = some (.int .i64 0) := bc_ BK587 8
   have hfs45 := blk_frozen BK587.out 8
   have hns45_1 := NB604_587.out
   have hms45_1 := NB587_604.out
   have hs46 : w36.cell? ⟨gb587, 9, none⟩ = some (.int .i64 0) := bc_ BK587 9
   have hfs46 := blk_frozen BK587.out 9
   have hns46_1 := NB604_587.out
   have hms46_1 := NB587_604.out
   refine skip_ (w1 := ?_) (by rfl) rfl ?_ ?_
   rotate_left
   ·
    go_simp
    rfl
   refine hK.out _ _ (by obtain ⟨s0, s1, s2, s3, s4, s5, s6, s7, s8, s9, s10, s11, s12⟩ := hHeld; (repeat' refine And.intro ?_ ?_) <;> (with_reducible repeat (first | assumption | refine (cell_far (p := ⟨gb587, _, none⟩) NB588_587.out _).trans ?_ | refine (cell_far (p := ⟨gb587, _, none⟩) NB604_587.out _).trans ?_))) (fun hHeld => ?_)
   clear hK K
   refine p_ (i := 6) (N := some 5) mk19_24 ?_ (hv := z19_15) (ha := z19_2)
   refine p_ (i := 7) (N := some 6) mk19_25 ?_ (hv := z19_15) (ha := z19_2)
   refine done_ (done_of HT_.out z19_20) ?_
   try go_wp2
   refine bodyPost_ret (results_ctt rfl _ _ gb587 31 #[.int .i64 t589, .int .i64 t590, .int .i64 t591, .slice Ao33 t592.length co33, .int .i64 t595, .string t596, .string t597, .int .i64 t598, .int .i64 t599, .int .i64 t600] (0, 0) _ rfl (by (with_reducible repeat (first | apply bpa10 | refine blk_drewN ?_ _ | refine blk_drew ?_ | refine blk_alloc ?_ _)); exact BK587.out) Try.underlying31 rfl z19_20) rfl ?_
   exact ⟨_, z19_18, by (with_reducible repeat (first | apply Kd.R_alloc | apply Kd.R_drewN | apply Kd.R_drew)); apply Kd.R_mono; (with_reducible repeat (first | apply Kd.R_far | apply Kd.R_alloc | apply Kd.R_drewN | apply Kd.R_drew)); exact Kd.R_types HO594.out BK587.out (by decide); all_goals (intro _ hk; first | exact trivial | exact hk.2 | trivial), z19_7⟩
def spec_l01Once.f (s0_0 : List Int) (s0_1 : Int) (s0_2 : Int) (a1 : Int) : Option (Bool × Int × Int) := (spec_l01Below.f s0_0 s0_1 s0_2 a1).bind fun bt607 => (some ((bt607.1 == 0), bt607.2.1, bt607.2.2))
set_option maxHeartbeats 8000000 in
set_option maxRecDepth 100000 in
theorem spec_l01Once.calls (g : Nat) (s0_0 : List Int) (s0_1 : Int) (s0_2 : Int) (a1 : Int) (r1 : Bool) (r2 : Int) (r3 : Int) (w0 w : World) (hI : IsS74 w0 w g s0_0 s0_1 s0_2) (hB : Below w0.heap.size w0 w) (h : spec_l01Once.f s0_0 s0_1 s0_2 a1 = some (r1, r2, r3)) :
  Calls Try.prog 38 #[.pointer (some ⟨g, 0, none⟩), .int .i64 a1] w fun e w' => e = .returned (.bool r1) ∧ IsS74 w0 w' g s0_0 r2 r3 ∧ Below w0.heap.size w0 w' ∧ KeepBut w w' g none := by
 have HI0 := Aside0.mk hI
 have HK := Aside0.mk (KeepBut.refl w g none)
 have HL := Aside0.mk hB.size
 clear hI
 have HW0 := Aside0.mk hB.size
 have HB := Aside0.mk hB
 clear hB
 have H := h
 unfold spec_l01Once.f at H
 clear h
 replace H := Option.bind_eq_some_iff.mp H
 obtain ⟨⟨t607, t608, t609⟩, A30, H⟩ := H
 (try dsimp only at H)
 have A3 := Aside0.mk A30
 clear A30
 simp only [Option.some.injEq, Prod.mk.injEq] at H
 obtain ⟨rfl, rfl, rfl⟩ := H
 go_enter Try.func38, Try.ntmps38
 go_wp2_with (first | ((with_reducible refine gate_callee (f := 34) rfl ?_); refine goesL_ (some 7) rfl rfl Try.func34 z19_20 rfl #[.pointer (some ⟨g, 0, none⟩), .int .i64 a1] rfl z19_8 ?_; (with_reducible refine (spec_l01Below.calls g s0_0 s0_1 s0_2 a1 t607 t608 t609 w0 _ ?side1 ?side2 A3.out).mono ?_); (case side1 => repeat (first | (with_reducible first | exact HI0.out | apply IsS74.alloc | apply IsS74.drewN | apply IsS74.drew | apply IsS74.set_1 | apply IsS74.set_2) | exact HI0.out)); (case side2 => repeat (first | (with_reducible first | exact HB.out | apply below_alloc | apply pw_below_drewN | apply below_drew1 | refine below_set ?_ (IsS74.ge HI0.out)) | exact HB.out)); rintro e w4 ⟨rfl, hi, hb, hk⟩; refine ⟨_, rfl, ?_⟩; replace HK := Aside0.mk (KeepBut.trans z19_9 hk (.inl rfl)); replace HB := Aside0.mk (hb); replace HI0 := Aside0.mk (hi)))
 go_ret
 exact ⟨z19_18, by repeat (first | (with_reducible first | exact HI0.out | apply IsS74.alloc | apply IsS74.drewN | apply IsS74.drew | apply IsS74.set_1 | apply IsS74.set_2) | exact HI0.out), by repeat (first | (with_reducible first | exact HB.out | apply below_alloc | apply pw_below_drewN | apply below_drew1 | refine below_set ?_ (IsS74.ge HI0.out)) | exact HB.out), z19_9⟩
end Go.Proofs.Ythajpckfodhhpaa.QRA
