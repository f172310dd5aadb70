/- What the functions behind RA compute, and that the program's calls come to just that. Written by a program of this session on the base of the kit's print. No condition. -/
import Derived.Test.YthajpckfodhhpaaVFnActsShort
import Derived.Test.YthajpckfodhhpaaVFnActsQRAx0
import Derived.Test.YthajpckfodhhpaaVFnActsQRAx17
namespace Go.Proofs.Ythajpckfodhhpaa.QRA
open Go.RowKit Go.Proofs.Ythajpckfodhhpaa.Short Go.Proofs.YthajpckfodhhpaaW.PrintWords Go.Proofs.YthajpckfodhhpaaW.PrintLast Go.Proofs.YthajpckfodhhpaaW.PrintMore
attribute [local go_sem] max2_int min2_int max_two min_two max_three min_three max_four min_four   -- for this text's walks alone
set_option linter.unusedVariables false
set_option linter.unusedSimpArgs false
def IsS61 (w0 W : World) (g : Nat) (f0 : ByteArray) (f1 : Int) (f2 : Bool) : Prop := W.heap[g]? = some (.cells #[.string f0, .int .i64 f1, .bool f2] 61 (0, 0)) ∧ w0.heap.size ≤ g
theorem IsS61.grown {w0 W : World} {g : Nat} {f0 : ByteArray} {f1 : Int} {f2 : Bool} {W1 : World} {row : Option Nat} (h : IsS61 w0 W g f0 f1 f2) (hw : W.grownBy W1 row) (hne : some g ≠ row) : IsS61 w0 W1 g f0 f1 f2 := by
 obtain ⟨hb, hg⟩ := h
 exact ⟨blk_grown hb hw hne, hg⟩
theorem IsS61.below {w0 W : World} {g : Nat} {f0 : ByteArray} {f1 : Int} {f2 : Bool} {W1 : World} (h : IsS61 w0 W g f0 f1 f2) (hw : Below W.heap.size W W1) : IsS61 w0 W1 g f0 f1 f2 := h.grown (grown_of_below hw none) (by simp)
theorem IsS61.drewN {w0 W : World} {g : Nat} {f0 : ByteArray} {f1 : Int} {f2 : Bool} (h : IsS61 w0 W g f0 f1 f2) (m : Nat) : IsS61 w0 (W.drewN m) g f0 f1 f2 := h
theorem IsS61.drew {w0 W : World} {g : Nat} {f0 : ByteArray} {f1 : Int} {f2 : Bool} (h : IsS61 w0 W g f0 f1 f2) : IsS61 w0 W.drew g f0 f1 f2 := h
theorem IsS61.at_ {w0 W : World} {g : Nat} {f0 : ByteArray} {f1 : Int} {f2 : Bool} {w' : World} {m : Nat} (hq : W.drewN m = w') (h : IsS61 w0 W g f0 f1 f2) : IsS61 w0 w' g f0 f1 f2 := by subst hq; exact IsS61.drewN h m
theorem IsS61.apart {w0 W : World} {g : Nat} {f0 : ByteArray} {f1 : Int} {f2 : Bool} {α : Type} {d : Kd α} {e : Nat} {base : Nat} {ok : Nat → Prop} {v : Value} {xs : List α} (h : IsS61 w0 W g f0 f1 f2) (ho : d.R e W base ok v xs) (ht : ∀ q, q ∈ e :: d.E → q ≠ 61) : d.R e W base (fun k => ok k ∧ k ≠ g) v xs := by
 obtain ⟨hb, hg⟩ := h
 exact Kd.R_types ho hb ht
theorem IsS61.own_ne {w0 W : World} {g : Nat} {f0 : ByteArray} {f1 : Int} {f2 : Bool} {α : Type} {d : Kd α} {e : Nat} {base : Nat} {ok : Nat → Prop} {v : Value} {xs : List α} (h : IsS61 w0 W g f0 f1 f2) (ho : d.R e W base ok v xs) (ht : e ≠ 61) : some g ≠ v.ownBlock := by
 obtain ⟨hb, hg⟩ := h
 exact Kd.R_ne ho hb ht
theorem IsS61.lt {w0 W : World} {g : Nat} {f0 : ByteArray} {f1 : Int} {f2 : Bool} (h : IsS61 w0 W g f0 f1 f2) : g < W.heap.size := by
 obtain ⟨hb, hg⟩ := h
 exact blk_lt hb
theorem IsS61.ge {w0 W : World} {g : Nat} {f0 : ByteArray} {f1 : Int} {f2 : Bool} (h : IsS61 w0 W g f0 f1 f2) : w0.heap.size ≤ g := by
 obtain ⟨hb, hg⟩ := h
 exact hg
theorem IsS61.far {w0 W : World} {g : Nat} {f0 : ByteArray} {f1 : Int} {f2 : Bool} {p : Addr} (h : IsS61 w0 W g f0 f1 f2) (hne : g ≠ p.block) (u : Value) : IsS61 w0 (W.setCell p u) g f0 f1 f2 := by
 obtain ⟨hb, hg⟩ := h
 exact ⟨blk_far hb hne u, hg⟩
theorem cellS61_0 {W : World} {g : Nat} {f0 : ByteArray} {f1 : Int} {f2 : Bool} (h : W.heap[g]? = some (.cells #[.string f0, .int .i64 f1, .bool f2] 61 (0, 0))) : W.cell? ⟨g, 0, none⟩ = some (.string f0) := (blk_cell h 0).trans rfl
theorem cellS61_1 {W : World} {g : Nat} {f0 : ByteArray} {f1 : Int} {f2 : Bool} (h : W.heap[g]? = some (.cells #[.string f0, .int .i64 f1, .bool f2] 61 (0, 0))) : W.cell? ⟨g, 1, none⟩ = some (.int .i64 f1) := (blk_cell h 1).trans rfl
theorem IsS61.set_1 {w0 W : World} {g : Nat} {f0 : ByteArray} {f1 : Int} {f2 : Bool} (h : IsS61 w0 W g f0 f1 f2) (x : Int) : IsS61 w0 (W.setCell ⟨g, 1, none⟩ (.int .i64 x)) g f0 x f2 := by
 obtain ⟨hb, hg⟩ := h
 exact ⟨by simpa using blk_set hb 1 (.int .i64 x), hg⟩
theorem cellS61_2 {W : World} {g : Nat} {f0 : ByteArray} {f1 : Int} {f2 : Bool} (h : W.heap[g]? = some (.cells #[.string f0, .int .i64 f1, .bool f2] 61 (0, 0))) : W.cell? ⟨g, 2, none⟩ = some (.bool f2) := (blk_cell h 2).trans rfl
theorem IsS61.set_2 {w0 W : World} {g : Nat} {f0 : ByteArray} {f1 : Int} {f2 : Bool} (h : IsS61 w0 W g f0 f1 f2) (x : Bool) : IsS61 w0 (W.setCell ⟨g, 2, none⟩ (.bool x)) g f0 f1 x := by
 obtain ⟨hb, hg⟩ := h
 exact ⟨by simpa using blk_set hb 2 (.bool x), hg⟩
theorem z18_11 {P : Prop} (h : P := by (with_reducible repeat (first | refine blk_drewN ?_ _ | refine blk_drew ?_ | refine blk_alloc ?_ _)); exact BK524.out) : P := h
theorem z18_10 {P : Prop} (h : P := by (with_reducible repeat (first | apply Kd.R_alloc | apply Kd.R_drewN | apply Kd.R_drew)); exact HO_3.out) : P := h
theorem z18_9 {P : Prop} (h : P := by repeat (first | (with_reducible first | exact HK.out | apply KeepBut.set_ | apply keep_drewN | apply keep_drew | apply keep_alloc | refine keep_far ?_ GW524.out _) | exact HK.out)) : P := h
theorem z18_8 {P : Prop} (h : P := by kernel_rfl) : P := h
theorem z18_7 {P : Prop} (h : P := by first | rfl | (simp only [List.map_toArray, List.map_cons, List.map_nil]; first | done | rfl)) : P := h
theorem z18_6 {P : Prop} (h : P := by first | rfl | (simp [errW_none, errW_some] <;> rfl) | (simp [*, errW_none, errW_some] <;> rfl)) : P := h
theorem z18_5 {P : Prop} (h : P := by intro w'; go_simp; with_reducible rfl) : P := h
theorem z18_4 {P : Prop} (h : P := by repeat (first | (with_reducible first | exact HB.out | apply below_alloc | apply pw_below_drewN | apply below_drew1) | exact HB.out)) : P := h
theorem z18_3 {P : Prop} (h : P := by repeat (first | (with_reducible first | exact HB.out | apply below_alloc | apply pw_below_drewN | apply below_drew1 | refine below_set ?_ (IsS61.ge HI0.out)) | exact HB.out)) : P := h
theorem z18_2 {P : Prop} (h : P := by repeat (first | (with_reducible first | exact HI0.out | apply IsS61.alloc | apply IsS61.drewN | apply IsS61.drew | apply IsS61.set_0 | apply IsS61.set_1 | apply IsS61.set_2) | exact HI0.out)) : P := h
theorem z18_1 {P : Prop} (h : P := by repeat (first | (with_reducible first | exact HK.out | apply KeepBut.set_ | apply keep_drewN | apply keep_drew | apply keep_alloc) | exact HK.out)) : P := h
theorem z18_0 {P : Prop} (h : P := by simp only [Act.put, List.setIfInBounds_toArray, List.set_cons_zero, List.set_cons_succ, i64_w, i32_w]; rfl) : P := h
abbrev mk18_0 : Array Bool := mb 16 0
abbrev mk18_1 : Array Bool := mb 16 1
abbrev mk18_2 : Array Bool := mb 16 3
abbrev mk18_3 : Array Bool := mb 16 7
abbrev mk18_4 : Array Bool := mb 16 23
abbrev mk18_5 : Array Bool := mb 16 55
abbrev mk18_6 : Array Bool := mb 16 119
abbrev mk18_7 : Array Bool := mb 16 127
abbrev mk18_8 : Array Bool := mb 16 255
abbrev mk18_9 : Array Bool := mb 16 511
abbrev mk18_10 : Array Bool := mb 16 1023
abbrev mk18_11 : Array Bool := mb 16 2047
abbrev mk18_12 : Array Bool := mb 16 4095
abbrev mk18_13 : Array Bool := mb 16 8191
abbrev mk18_14 : Array Bool := mb 16 16383
abbrev mk18_15 : Array Bool := mb 16 32767
abbrev mk18_16 : Array Bool := mb 16 65535
theorem z18_12 {P : Prop} (h : P := by repeat (first | (with_reducible first | exact HI0.out | apply IsS61.alloc | apply IsS61.drewN | apply IsS61.drew | apply IsS61.set_0 | apply IsS61.set_1 | apply IsS61.set_2 | refine IsS61.far ?_ NB0_524.out _) | exact HI0.out)) : P := h
theorem z18_13 {P : Prop} (h : P := by repeat (first | (with_reducible first | exact HB.out | apply below_alloc | apply pw_below_drewN | apply below_drew1 | refine below_set ?_ (IsS61.ge HI0.out) | refine below_set ?_ GE524.out) | exact HB.out)) : P := h
def spec_l05Read_num.f (k : Nat) (s0_0 : ByteArray) (s0_1 : Int) (s0_2 : Bool) : Option (Int × ByteArray × Int × Bool) := if s0_2 = true then (some (0, s0_0, s0_1, s0_2)) else ((spec_ReadVar.f k s0_0 s0_1).bind fun bt521 => (if bt521.2.2 = true then (some (bt521.1, s0_0, bt521.2.1, s0_2)) else (some (0, s0_0, s0_1, true))))
def spec_l05Read_num.T3 : Bool × List (List Nat × List Nat) := (true, [([], []), ([0], [0]), ([1], [1]), ([2], [2]), ([], []), ([4], [4]), ([5], [5]), ([6], [6]), ([3, 7], [3, 7]), ([8], [8]), ([9], [9]), ([9], [9]), ([9], [9]), ([10, 8, 0, 1, 2, 3, 4, 5, 6, 7, 8, 9, 10], [10]), ([11, 13, 0, 1, 2, 3, 4, 5, 6, 7, 8, 9, 10, 11, 13], [11]), ([12, 14, 0, 1, 2, 3, 4, 5, 6, 7, 8, 9, 10, 11, 12, 13, 14], [12])])
def spec_l05Read_num.B3 : List Nat := [0, 1, 3, 7, 0, 16, 48, 112, 255, 511, 1023, 1023, 1023, 2047, 12287, 32767]
theorem spec_l05Read_num.tab3 : rtab .any (opsOf Try.f66 3) = spec_l05Read_num.T3 := by kernel_rfl
theorem spec_l05Read_num.bits3 : waitsOk spec_l05Read_num.T3.2 spec_l05Read_num.B3 = true := by kernel_rfl
set_option maxHeartbeats 8000000 in
set_option maxRecDepth 100000 in
theorem spec_l05Read_num.calls (k : Nat) (g : Nat) (s0_0 : ByteArray) (s0_1 : Int) (s0_2 : Bool) (r1 : Int) (r2 : ByteArray) (r3 : Int) (r4 : Bool) (w0 w : World) (hI : IsS61 w0 w g s0_0 s0_1 s0_2) (hB : Below w0.heap.size w0 w) (h : spec_l05Read_num.f k s0_0 s0_1 s0_2 = some (r1, r2, r3, r4)) :
  Calls Try.prog 66 #[.pointer (some ⟨g, 0, none⟩)] w fun e w' => e = .returned (.int .i64 r1) ∧ IsS61 w0 w' g r2 r3 r4 ∧ Below w0.heap.size w0 w' ∧ KeepBut w w' g none := by
 have HI0 := Aside0.mk hI
 have HK := Aside0.mk (KeepBut.refl w g none)
 have HL := Aside0.mk hB.size
 clear hI
 have HW0 := Aside0.mk hB.size
 have HB := Aside0.mk hB
 clear hB
 have H : (if s0_2 = true then (some (0, s0_0, s0_1, s0_2)) else ((spec_ReadVar.f k s0_0 s0_1).bind fun bt521 => (if bt521.2.2 = true then (some (bt521.1, s0_0, bt521.2.1, s0_2)) else (some (0, s0_0, s0_1, true))))) = some (r1, r2, r3, r4) := h
 clear h
 by_cases c2 : s0_2 = true
 ·
  subst c2
  rw [if_pos rfl] at H
  simp only [Option.some.injEq, Prod.mk.injEq] at H
  obtain ⟨rfl, rfl, rfl, rfl⟩ := H
  obtain ⟨HGz3, hgz3⟩ := HI0.out
  have hcz3_0 := cellS61_0 HGz3
  have hcz3_1 := cellS61_1 HGz3
  have hcz3_2 := cellS61_2 HGz3
  have hfz3_0 := blk_frozen HGz3 0
  have hfz3_1 := blk_frozen HGz3 1
  have hfz3_2 := blk_frozen HGz3 2
  clear HGz3 hgz3
  go_enter Try.func66, Try.ntmps66
  go_wp2
  go_ret
  exact ⟨z18_6, z18_2, z18_3, z18_1⟩
 replace c2 := Bool.eq_false_iff.mpr c2
 subst c2
 rw [if_neg (show ¬ (false = true) by decide)] at H
 replace H := Option.bind_eq_some_iff.mp H
 obtain ⟨⟨t521, t522, t523⟩, A40, H⟩ := H
 (try dsimp only at H)
 have A4 := Aside0.mk A40
 clear A40
 by_cases c5 : t523 = true
 ·
  subst c5
  rw [if_pos rfl] at H
  simp only [Option.some.injEq, Prod.mk.injEq] at H
  obtain ⟨rfl, rfl, rfl, rfl⟩ := H
  obtain ⟨HGz6, hgz6⟩ := HI0.out
  have hcz6_0 := cellS61_0 HGz6
  have hcz6_1 := cellS61_1 HGz6
  have hcz6_2 := cellS61_2 HGz6
  have hfz6_0 := blk_frozen HGz6 0
  have hfz6_1 := blk_frozen HGz6 1
  have hfz6_2 := blk_frozen HGz6 2
  clear HGz6 hgz6
  go_enter Try.func66, Try.ntmps66
  try go_wp2
  replace HI0 := Aside0.mk (IsS61.drew HI0.out)
  replace HK := Aside0.mk (keep_drew HK.out)
  replace HB := Aside0.mk (below_drew1 HB.out)
  refine start_ (n := 16) (S := fun w' => w'.cell? ⟨g, 0, none⟩ = some (.string s0_0) ∧ w'.cell? ⟨g, 1, none⟩ = some (.int .i64 s0_1) ∧ w'.cell? ⟨g, 2, none⟩ = some (.bool false)) (ds := []) mk18_0 z18_8 rfl rfl ⟨(blk_cell HI0.out.1 0).trans rfl, (blk_cell HI0.out.1 1).trans rfl, (blk_cell HI0.out.1 2).trans rfl⟩ (fun hHeld => ?_); refine with_tabW spec_l05Read_num.tab3 spec_l05Read_num.bits3 (fun HT_ HW_ => ?_)
  generalize w.drew = w7 at HI0 HK HB hHeld ⊢
  refine p_ (i := 0) (N := some 11) mk18_1 ?_ (hv := z18_5) (ha := z18_0)
  refine p_ (i := 1) (N := some 12) mk18_2 ?_ (hv := z18_5) (ha := z18_0)
  refine p_ (i := 2) (N := some 13) mk18_3 ?_ (hv := z18_5) (ha := z18_0)
  refine p_ (i := 4) (N := some 15) mk18_4 ?_ (hv := z18_5) (ha := z18_0)
  refine p_ (i := 5) (N := some 16) mk18_5 ?_ (hv := z18_5) (ha := z18_0)
  refine p_ (i := 6) (N := some 17) mk18_6 ?_ (hv := z18_5) (ha := z18_0)
  refine t_ (i := 3) (N := some 14) mk18_7 hHeld ?_ (ha := z18_0)
  refine t_ (i := 7) (N := some 18) mk18_8 hHeld ?_ (ha := z18_0)
  refine o_ (i := 8) (N := some 19) mk18_9 (fun K hK => ?_)
  refine goes_ Try.func79 z18_8 rfl #[.string s0_0, .int .i64 s0_1] (by rfl) rfl rfl z18_7 ?_
  with_reducible refine (spec_ReadVar.calls k s0_0 s0_1 t521 t522 true _ A4.out).mono ?_
  rintro e w8 ⟨rfl, hb⟩
  refine ⟨_, rfl, ?_⟩
  replace HK := Aside0.mk (KeepBut.trans z18_1 (KeepBut.of_below hb g none) (.inl rfl))
  replace HB := Aside0.mk (below_step z18_3 hb)
  replace HI0 := Aside0.mk (IsS61.below z18_2 hb)
  (try clear hb)
  (try clear hb2)
  (try clear hk)
  (try clear hi)
  refine hK.out _ _ ⟨(blk_cell HI0.out.1 0).trans rfl, (blk_cell HI0.out.1 1).trans rfl, (blk_cell HI0.out.1 2).trans rfl⟩ (fun hHeld => ?_)
  clear hK K
  refine n_ ?_
  refine p_ (i := 9) (N := some 10) mk18_10 ?_ (hv := z18_5) (ha := z18_0)
  refine p_ (i := 10) (N := some 20) mk18_11 ?_ (hv := z18_5) (ha := z18_0)
  refine p_ (i := 11) (N := some 21) mk18_12 ?_ (hv := z18_5) (ha := z18_0)
  refine p_ (i := 12) (N := some 22) mk18_13 ?_ (hv := z18_5) (ha := z18_0)
  refine p_ (i := 13) (N := some 3) mk18_14 ?_ (hv := z18_5) (ha := z18_0)
  refine p_ (i := 14) (N := some 4) mk18_15 ?_ (hv := z18_5) (ha := z18_0)
  refine p_ (i := 15) (N := some 5) mk18_16 ?_ (hv := z18_5) (ha := z18_0)
  refine done_ (done_of HT_.out z18_8) ?_
  obtain ⟨HGz9, hgz9⟩ := HI0.out
  have hcz9_0 := cellS61_0 HGz9
  have hcz9_1 := cellS61_1 HGz9
  have hcz9_2 := cellS61_2 HGz9
  have hfz9_0 := blk_frozen HGz9 0
  have hfz9_1 := blk_frozen HGz9 1
  have hfz9_2 := blk_frozen HGz9 2
  clear HGz9 hgz9
  try go_wp2
  go_ret
  exact ⟨z18_6, z18_2, z18_3, z18_1⟩
 replace c5 := Bool.eq_false_iff.mpr c5
 subst c5
 rw [if_neg (show ¬ (false = true) by decide)] at H
 simp only [Option.some.injEq, Prod.mk.injEq] at H
 obtain ⟨rfl, rfl, rfl, rfl⟩ := H
 obtain ⟨HGz10, hgz10⟩ := HI0.out
 have hcz10_0 := cellS61_0 HGz10
 have hcz10_1 := cellS61_1 HGz10
 have hcz10_2 := cellS61_2 HGz10
 have hfz10_0 := blk_frozen HGz10 0
 have hfz10_1 := blk_frozen HGz10 1
 have hfz10_2 := blk_frozen HGz10 2
 clear HGz10 hgz10
 go_enter Try.func66, Try.ntmps66
 try go_wp2
 replace HI0 := Aside0.mk (IsS61.drew HI0.out)
 replace HK := Aside0.mk (keep_drew HK.out)
 replace HB := Aside0.mk (below_drew1 HB.out)
 refine start_ (n := 16) (S := fun w' => w'.cell? ⟨g, 0, none⟩ = some (.string s0_0) ∧ w'.cell? ⟨g, 1, none⟩ = some (.int .i64 s0_1) ∧ w'.cell? ⟨g, 2, none⟩ = some (.bool false)) (ds := []) mk18_0 z18_8 rfl rfl ⟨(blk_cell HI0.out.1 0).trans rfl, (blk_cell HI0.out.1 1).trans rfl, (blk_cell HI0.out.1 2).trans rfl⟩ (fun hHeld => ?_); refine with_tabW spec_l05Read_num.tab3 spec_l05Read_num.bits3 (fun HT_ HW_ => ?_)
 generalize w.drew = w11 at HI0 HK HB hHeld ⊢
 refine p_ (i := 0) (N := some 11) mk18_1 ?_ (hv := z18_5) (ha := z18_0)
 refine p_ (i := 1) (N := some 12) mk18_2 ?_ (hv := z18_5) (ha := z18_0)
 refine p_ (i := 2) (N := some 13) mk18_3 ?_ (hv := z18_5) (ha := z18_0)
 refine p_ (i := 4) (N := some 15) mk18_4 ?_ (hv := z18_5) (ha := z18_0)
 refine p_ (i := 5) (N := some 16) mk18_5 ?_ (hv := z18_5) (ha := z18_0)
 refine p_ (i := 6) (N := some 17) mk18_6 ?_ (hv := z18_5) (ha := z18_0)
 refine t_ (i := 3) (N := some 14) mk18_7 hHeld ?_ (ha := z18_0)
 refine t_ (i := 7) (N := some 18) mk18_8 hHeld ?_ (ha := z18_0)
 refine o_ (i := 8) (N := some 19) mk18_9 (fun K hK => ?_)
 refine goes_ Try.func79 z18_8 rfl #[.string s0_0, .int .i64 s0_1] (by rfl) rfl rfl z18_7 ?_
 with_reducible refine (spec_ReadVar.calls k s0_0 s0_1 t521 t522 false _ A4.out).mono ?_
 rintro e w12 ⟨rfl, hb⟩
 refine ⟨_, rfl, ?_⟩
 replace HK := Aside0.mk (KeepBut.trans z18_1 (KeepBut.of_below hb g none) (.inl rfl))
 replace HB := Aside0.mk (below_step z18_3 hb)
 replace HI0 := Aside0.mk (IsS61.below z18_2 hb)
 (try clear hb)
 (try clear hb2)
 (try clear hk)
 (try clear hi)
 refine hK.out _ _ ⟨(blk_cell HI0.out.1 0).trans rfl, (blk_cell HI0.out.1 1).trans rfl, (blk_cell HI0.out.1 2).trans rfl⟩ (fun hHeld => ?_)
 clear hK K
 refine n_ ?_
 refine p_ (i := 9) (N := some 10) mk18_10 ?_ (hv := z18_5) (ha := z18_0)
 refine p_ (i := 10) (N := some 20) mk18_11 ?_ (hv := z18_5) (ha := z18_0)
 refine p_ (i := 11) (N := some 21) mk18_12 ?_ (hv := z18_5) (ha := z18_0)
 refine p_ (i := 12) (N := some 22) mk18_13 ?_ (hv := z18_5) (ha := z18_0)
 refine p_ (i := 13) (N := some 3) mk18_14 ?_ (hv := z18_5) (ha := z18_0)
 refine p_ (i := 14) (N := some 4) mk18_15 ?_ (hv := z18_5) (ha := z18_0)
 refine p_ (i := 15) (N := some 5) mk18_16 ?_ (hv := z18_5) (ha := z18_0)
 refine done_ (done_of HT_.out z18_8) ?_
 obtain ⟨HGz13, hgz13⟩ := HI0.out
 have hcz13_0 := cellS61_0 HGz13
 have hcz13_1 := cellS61_1 HGz13
 have hcz13_2 := cellS61_2 HGz13
 have hfz13_0 := blk_frozen HGz13 0
 have hfz13_1 := blk_frozen HGz13 1
 have hfz13_2 := blk_frozen HGz13 2
 clear HGz13 hgz13
 try go_wp2
 go_ret
 exact ⟨z18_6, z18_2, z18_3, z18_1⟩
def spec_l05Read_dot.f (k : Nat) (s0_0 : ByteArray) (s0_1 : Int) (s0_2 : Bool) : Option (Int × Int × ByteArray × Int × Bool) := (spec_l05Read_num.f k s0_0 s0_1 s0_2).bind fun bt525 => ((spec_l05Read_num.f k bt525.2.1 bt525.2.2.1 bt525.2.2.2).bind fun bt529 => (some (bt525.1, bt529.1, bt529.2.1, bt529.2.2.1, bt529.2.2.2)))
set_option maxHeartbeats 8000000 in
set_option maxRecDepth 100000 in
theorem spec_l05Read_dot.calls (k : Nat) (g : Nat) (s0_0 : ByteArray) (s0_1 : Int) (s0_2 : Bool) (r1 : Int) (r2 : Int) (r3 : ByteArray) (r4 : Int) (r5 : Bool) (w0 w : World) (hI : IsS61 w0 w g s0_0 s0_1 s0_2) (hB : Below w0.heap.size w0 w) (h : spec_l05Read_dot.f k s0_0 s0_1 s0_2 = some (r1, r2, r3, r4, r5)) :
  Calls Try.prog 65 #[.pointer (some ⟨g, 0, none⟩)] w fun e w' => e = .returned (.agg #[.int .i64 r1, .int .i64 r2]) ∧ IsS61 w0 w' g r3 r4 r5 ∧ Below w0.heap.size w0 w' ∧ KeepBut w w' g none := by
 have hu28 := Try.underlying28
 have HI0 := Aside0.mk hI
 have HK := Aside0.mk (KeepBut.refl w g none)
 have HL := Aside0.mk hB.size
 clear hI
 have HW0 := Aside0.mk hB.size
 have HB := Aside0.mk hB
 clear hB
 have H := h
 unfold spec_l05Read_dot.f at H
 clear h
 replace H := Option.bind_eq_some_iff.mp H
 obtain ⟨⟨t525, t526, t527, t528⟩, A20, H⟩ := H
 (try dsimp only at H)
 have A2 := Aside0.mk A20
 clear A20
 replace H := Option.bind_eq_some_iff.mp H
 obtain ⟨⟨t529, t530, t531, t532⟩, A30, H⟩ := H
 (try dsimp only at H)
 have A3 := Aside0.mk A30
 clear A30
 simp only [Option.some.injEq, Prod.mk.injEq] at H
 obtain ⟨rfl, rfl, rfl, rfl, rfl⟩ := H
 go_enter Try.func65, Try.ntmps65
 go_wp2_with (first | ((with_reducible refine gate_dst (N := 2) rfl ?_); refine box_event ?hg (N := 2) ?hd (cs := #[.int .i64 0, .int .i64 0]) (t := 28) ?hr ?_; (case hd => rfl); (case hg => rfl); (case hr => first | (go_simp; done) | (go_simp; rfl)); intro gb524 hg w4 hbox hb; replace HB := Aside0.mk (below_step z18_3 hb); have BK524 := Aside0.mk (hbox); have GW524 := Aside0.mk ((by rw [hg]; exact (keep_size (w := w) (g := g) (row := none) z18_1) : w.heap.size ≤ gb524)); have GE524 := Aside0.mk ((Nat.le_trans HW0.out (by rw [hg]; exact (keep_size (w := w) (g := g) (row := none) z18_1) : w.heap.size ≤ gb524) : w0.heap.size ≤ gb524)); replace HK := Aside0.mk (KeepBut.trans z18_1 (KeepBut.of_below hb g none) (.inl rfl)); have NB0_524 := Aside0.mk ((by rw [hg]; exact Nat.ne_of_lt (IsS61.lt (show IsS61 w0 _ g s0_0 s0_1 s0_2 from by repeat (first | (with_reducible first | exact HI0.out | apply IsS61.alloc | apply IsS61.drewN | apply IsS61.drew | apply IsS61.set_0 | apply IsS61.set_1 | apply IsS61.set_2) | exact HI0.out))) : g ≠ gb524)); have NB524_0 := Aside0.mk ((by rw [hg]; exact Nat.ne_of_gt (IsS61.lt (show IsS61 w0 _ g s0_0 s0_1 s0_2 from by repeat (first | (with_reducible first | exact HI0.out | apply IsS61.alloc | apply IsS61.drewN | apply IsS61.drew | apply IsS61.set_0 | apply IsS61.set_1 | apply IsS61.set_2) | exact HI0.out))) : gb524 ≠ g)); replace HI0 := Aside0.mk (IsS61.below z18_2 hb); clear hb hbox hg) | ((with_reducible refine gate_callee (f := 66) rfl ?_); refine goesL_ (some 5) rfl rfl Try.func66 z18_8 rfl #[.pointer (some ⟨g, 0, none⟩)] rfl z18_7 ?_; (with_reducible refine (spec_l05Read_num.calls k g s0_0 s0_1 s0_2 t525 t526 t527 t528 w0 _ ?side1 ?side2 A2.out).mono ?_); (case side1 => exact z18_12); (case side2 => exact z18_13); rintro e w5 ⟨rfl, hi, hb, hk⟩; refine ⟨_, rfl, ?_⟩; replace BK524 := kb_ BK524 hk z18_11 NB524_0; replace HK := Aside0.mk (KeepBut.trans z18_9 hk (.inl rfl)); replace HB := Aside0.mk (hb); replace HI0 := Aside0.mk (hi)) | ((with_reducible refine gate_callee (f := 66) rfl ?_); refine goesL_ (some 8) rfl rfl Try.func66 z18_8 rfl #[.pointer (some ⟨g, 0, none⟩)] rfl z18_7 ?_; (with_reducible refine (spec_l05Read_num.calls k g t526 t527 t528 t529 t530 t531 t532 w0 _ ?side1 ?side2 A3.out).mono ?_); (case side1 => exact z18_12); (case side2 => exact z18_13); rintro e w6 ⟨rfl, hi, hb, hk⟩; refine ⟨_, rfl, ?_⟩; replace BK524 := kb_ BK524 hk z18_11 NB524_0; replace HK := Aside0.mk (KeepBut.trans z18_9 hk (.inl rfl)); replace HB := Aside0.mk (hb); replace HI0 := Aside0.mk (hi); have hnb7 := NB524_0.out; have hnc7 := NB0_524.out; have hcz8 := bc2 BK524.out))
 refine bodyPost_ret (results_cell_row rfl _ _ gb524 28 #[.int .i64 t525, .int .i64 t529] (0, 0) _ rfl (by (with_reducible repeat (first | apply bpa2 | refine blk_drewN ?_ _ | refine blk_drew ?_ | refine blk_alloc ?_ _)); exact BK524.out) Try.underlying28 rfl z18_8) rfl ?_
 exact ⟨z18_6, by repeat (first | (with_reducible first | exact HI0.out | apply IsS61.alloc | apply IsS61.drewN | apply IsS61.drew | apply IsS61.set_0 | apply IsS61.set_1 | apply IsS61.set_2 | refine IsS61.far ?_ NB0_524.out _) | exact HI0.out), by repeat (first | (with_reducible first | exact HB.out | apply below_alloc | apply pw_below_drewN | apply below_drew1 | refine below_set ?_ (IsS61.ge HI0.out) | refine below_set ?_ GE524.out) | exact HB.out), z18_9⟩
def spec_l05Read_know.l0 : Nat → List Int → Int → ByteArray → Int → Bool → Option (List Int × ByteArray × Int × Bool)
  | 0, _, _, _, _, _ => none
  | k + 1, x3, x4, x1000, x1001, x1002 => if x4 < 3 then ((spec_l05Read_num.f k x1000 x1001 x1002).bind fun bt536 => (if x3.length < 17592186044416 then (spec_l05Read_know.l0 k (x3 ++ [bt536.1]) (wrap64 (x4 + 1)) bt536.2.1 bt536.2.2.1 bt536.2.2.2) else (none))) else (some (x3, x1000, x1001, x1002))
def spec_l05Read_know.f (k : Nat) (s0_0 : ByteArray) (s0_1 : Int) (s0_2 : Bool) : Option (List Int × ByteArray × Int × Bool) := spec_l05Read_know.l0 k (([] : List Int)) 0 s0_0 s0_1 s0_2
set_option maxHeartbeats 8000000 in
set_option maxRecDepth 100000 in
theorem spec_l05Read_know.calls (k : Nat) (g : Nat) (s0_0 : ByteArray) (s0_1 : Int) (s0_2 : Bool) (r1 : List Int) (r2 : ByteArray) (r3 : Int) (r4 : Bool) (w0 w : World) (hI : IsS61 w0 w g s0_0 s0_1 s0_2) (hB : Below w0.heap.size w0 w) (h : spec_l05Read_know.f k s0_0 s0_1 s0_2 = some (r1, r2, r3, r4)) :
  Calls Try.prog 67 #[.pointer (some ⟨g, 0, none⟩)] w fun e w' => ∃ v0_ : Value, e = .returned (v0_) ∧ Kd.R (Kd.int .i64) 3 w' w.heap.size (fun _ => True) v0_ r1 ∧ IsS61 w0 w' g r2 r3 r4 ∧ Below w0.heap.size w0 w' ∧ KeepBut w w' g none := by
 have HI0 := Aside0.mk hI
 have HK := Aside0.mk (KeepBut.refl w g none)
 have HL := Aside0.mk hB.size
 clear hI
 have HW0 := Aside0.mk hB.size
 have HB := Aside0.mk hB
 clear hB
 have H := h
 unfold spec_l05Read_know.f at H
 clear h
 obtain ⟨y533, hy533⟩ : ∃ y_ : List Int, y_ = (([] : List Int)) := ⟨_, rfl⟩
 replace H : (spec_l05Read_know.l0 k y533 0 s0_0 s0_1 s0_2) = some (r1, r2, r3, r4) := by first | (rw [hy533]; with_reducible exact H) | (have H2_ := (Option.bind_some _ _).symm.trans H; rw [hy533]; with_reducible exact H2_) | (have H2_ := (Option.bind_some _ _).symm.trans H; with_reducible exact H2_) | with_reducible exact H | (rw [hy533]; exact H) | exact H
 have Ny533 := Aside0.mk hy533
 clear hy533
 have H' := Aside0.mk H
 clear H
 go_enter Try.func67, Try.ntmps67
 go_wp2_with (first | ((with_reducible refine gate_dst (N := 5) rfl ?_); refine Kd.R_lit (Kd.int .i64) _ 3 ?hg (N := 5) ?hd (xs := ([] : List Int)) (inner := []) (ok := fun _ => True) (okp := fun _ => True) ?hr ?hp (fun _ hk => hk) trivial (Below.refl _ _) (Nat.le_refl _) (by simp) ?_; (case hd => rfl); (case hg => rfl); (case hr => first | (go_simp; done) | (go_simp; rfl)); (case hp => exact (Reps.none _ _)); intro v534 w2 ho3 hb hg_ hnew_; clear hg_ hnew_; (first | rw [← Ny533.out] at ho3 | (simp only [Int.reduceToNat] at ho3; rw [← Ny533.out] at ho3)); have HO535 := Aside0.mk (Kd.R_lower ho3 (keep_size (w := w) (g := g) (row := none) z18_1)); replace HK := Aside0.mk (KeepBut.trans z18_1 (KeepBut.of_below hb g none) (.inl rfl)); replace HB := Aside0.mk (below_step z18_3 hb); replace HI0 := Aside0.mk (IsS61.below z18_2 hb); clear hb ho3))
 go_loopg [3, 4] k (fun kq v3 v4 w' => ∃ (x3_1 : List Int) (x4_1 : Int) (x1000_1 : ByteArray) (x1001_1 : Int) (x1002_1 : Bool), v4 = .int .i64 x4_1 ∧ Aside0 (spec_l05Read_know.l0 kq x3_1 x4_1 x1000_1 x1001_1 x1002_1 = some (r1, r2, r3, r4)) ∧ Aside0 (kq ≤ k) ∧ Aside0 (Kd.R (Kd.int .i64) 3 w' w.heap.size (fun _ => True) v3 x3_1) ∧ Aside0 (IsS61 w0 w' g x1000_1 x1001_1 x1002_1) ∧ Aside0 (KeepBut w w' g none) ∧ Aside0 (Below w0.heap.size w0 w'))
 case atStart => exact ⟨(y533), (0), (s0_0), (s0_1), (s0_2), (by first | rfl | (simp; done) | (simp [*]; done)), H', ⟨Nat.le_refl _⟩, ⟨by (with_reducible repeat (first | apply Kd.R_alloc | apply Kd.R_drewN | apply Kd.R_drew)); exact HO535.out⟩, ⟨z18_2⟩, ⟨z18_1⟩, ⟨z18_3⟩⟩
 case round =>
  clear H'
  try clear p2
  obtain ⟨x3_1, x4_1, x1000_1, x1001_1, x1002_1, rfl, HA, HK1, HO_3, HI0, HK, HB⟩ := hrel
  cases gk with
  | zero => exact absurd HA.out (by simp [spec_l05Read_know.l0])
  | succ k1 =>
   have H := HA.out
   clear HA
   simp only [spec_l05Read_know.l0] at H
   by_cases c4 : x4_1 < 3
   rotate_left
   ·
    rw [if_neg c4] at H
    have c4b0 : decide (x4_1 < 3) = false := decide_eq_false c4
    clear c4
    simp only [Option.some.injEq, Prod.mk.injEq] at H
    obtain ⟨rfl, rfl, rfl, rfl⟩ := H
    go_wp2
    go_ret
    exact ⟨_, z18_6, z18_10, z18_2, z18_3, z18_1⟩
   rw [if_pos c4] at H
   have c4b0 : decide (x4_1 < 3) = true := decide_eq_true c4
   clear c4
   replace H := Option.bind_eq_some_iff.mp H
   obtain ⟨⟨t536, t537, t538, t539⟩, A50, H⟩ := H
   (try dsimp only at H)
   have A5 := Aside0.mk A50
   clear A50
   by_cases c6 : x3_1.length < 17592186044416
   rotate_left
   ·
    rw [if_neg c6] at H
    exact absurd H (by simp)
   rw [if_pos c6] at H
   have LMc6 := Aside0.mk c6
   clear c6
   obtain ⟨y540, hy540⟩ : ∃ y_ : List Int, y_ = (x3_1 ++ [t536]) := ⟨_, rfl⟩
   replace H : (spec_l05Read_know.l0 k1 y540 (wrap64 (x4_1 + 1)) t537 t538 t539) = some (r1, r2, r3, r4) := by first | (rw [hy540]; with_reducible exact H) | (have H2_ := (Option.bind_some _ _).symm.trans H; rw [hy540]; with_reducible exact H2_) | (have H2_ := (Option.bind_some _ _).symm.trans H; with_reducible exact H2_) | with_reducible exact H | (rw [hy540]; exact H) | exact H
   have Ny540 := Aside0.mk hy540
   clear hy540
   have H' := Aside0.mk H
   clear H
   go_wp2_with (first | ((with_reducible refine gate_callee (f := 66) rfl ?_); refine goesL_ (some 12) rfl rfl Try.func66 z18_8 rfl #[.pointer (some ⟨g, 0, none⟩)] rfl z18_7 ?_; (with_reducible refine (spec_l05Read_num.calls k1 g x1000_1 x1001_1 x1002_1 t536 t537 t538 t539 w0 _ ?side1 ?side2 A5.out).mono ?_); (case side1 => repeat (first | (with_reducible first | exact HI0.out | apply IsS61.alloc | apply IsS61.drewN | apply IsS61.drew | apply IsS61.set_0 | apply IsS61.set_1 | apply IsS61.set_2) | exact HI0.out)); (case side2 => repeat (first | (with_reducible first | exact HB.out | apply below_alloc | apply pw_below_drewN | apply below_drew1 | refine below_set ?_ (IsS61.ge HI0.out)) | exact HB.out)); rintro e w7 ⟨rfl, hi, hb, hk⟩; refine ⟨_, rfl, ?_⟩; replace HO_3 := Aside0.mk (Kd.R_mono (Kd.R_keep (IsS61.apart (show IsS61 w0 _ g x1000_1 x1001_1 x1002_1 from by repeat (first | (with_reducible first | exact HI0.out | apply IsS61.alloc | apply IsS61.drewN | apply IsS61.drew | apply IsS61.set_0 | apply IsS61.set_1 | apply IsS61.set_2) | exact HI0.out)) z18_10 (by decide)) hk (fun _ h => h.2)) (fun _ h => h.1)); replace HK := Aside0.mk (KeepBut.trans z18_1 hk (.inl rfl)); replace HB := Aside0.mk (hb); replace HI0 := Aside0.mk (hi)) | ((with_reducible refine gate_builtin (b := .append) (xs := #[.tmp 10, .tmp 13]) rfl ?_); at_builtin; refine Kd.R_append (Kd.int .i64) w.heap.size rfl (.tmp 10) (.tmp 13) 29 3 (.int .i64 0) 8 rfl Try.underlying29 info3 rfl (by decide) (by omega) u3 x3_1 t536 [.int .i64 t536] (fun _ => True) (fun _ => False) rfl rfl ?aP (fun _ hk => hk.elim) ?aF ?aO (Below.refl _ _) ?aS ?aL ?_; (case aP => exact rfl); (case aF => exact (fun _ _ => trivial)); (case aO => exact z18_10); (case aS => exact (keep_size (w := w) (g := g) (row := none) z18_1)); (case aL => have := LMc6.out; omega); intro v541 w8 ho hb hg hat; rw [← Ny540.out] at ho; replace HB := Aside0.mk (below_weaken z18_3 HL.out hb); replace HI0 := Aside0.mk (IsS61.grown z18_2 hg (IsS61.own_ne HI0.out HO_3.out (by decide))); replace HK := Aside0.mk (KeepBut.trans z18_1 (KeepBut.of_grown hg g) (Kd.R_base2 HO_3.out)); have HO542 := Aside0.mk (ho); clear HO_3; clear ho hb hg hat))
   go_roundg k1
   case measure => have := HK1.out; omega
   case rel => exact ⟨(y540), (wrap64 (x4_1 + 1)), (t537), (t538), (t539), (by first | rfl | (simp; done) | (simp [*]; done)), H', ⟨by have := HK1.out; omega⟩, ⟨by (with_reducible repeat (first | apply Kd.R_alloc | apply Kd.R_drewN | apply Kd.R_drew)); exact HO542.out⟩, ⟨z18_2⟩, ⟨z18_1⟩, ⟨z18_3⟩⟩
def spec_ReadShort.f (k : Nat) (a0 : ByteArray) (a1 : Int) : Option (ByteArray × Int × Bool) := (spec_ReadVar.f k a0 a1).bind fun bt543 => (if bt543.2.2 = true then (if bt543.1 > 20000 then (some ((⟨#[]⟩ : ByteArray), 0, false)) else (if bt543.1 > (wrap64 ((a0.size : Int) - bt543.2.1)) then (some ((⟨#[]⟩ : ByteArray), 0, false)) else (if 0 ≤ bt543.2.1 then (if bt543.2.1 ≤ (wrap64 (bt543.2.1 + bt543.1)) then (if (wrap64 (bt543.2.1 + bt543.1)) ≤ (a0.size : Int) then (some (a0.extract (bt543.2.1 : Int).toNat ((wrap64 (bt543.2.1 + bt543.1)) : Int).toNat, wrap64 (bt543.2.1 + bt543.1), true)) else (none)) else (none)) else (none)))) else (some ((⟨#[]⟩ : ByteArray), 0, false)))
set_option maxHeartbeats 8000000 in
set_option maxRecDepth 100000 in
theorem spec_ReadShort.calls (k : Nat) (a0 : ByteArray) (a1 : Int) (r1 : ByteArray) (r2 : Int) (r3 : Bool) (w : World) (h : spec_ReadShort.f k a0 a1 = some (r1, r2, r3)) :
  Calls Try.prog 80 #[.string a0, .int .i64 a1] w fun e w' => e = .returned (.tuple #[.string r1, .int .i64 r2, .bool r3]) ∧ Below w.heap.size w w' := by
 have HB := Aside0.mk (Below.refl w.heap.size w)
 have H := h
 unfold spec_ReadShort.f at H
 clear h
 replace H := Option.bind_eq_some_iff.mp H
 obtain ⟨⟨t543, t544, t545⟩, A30, H⟩ := H
 (try dsimp only at H)
 have A3 := Aside0.mk A30
 clear A30
 by_cases c4 : t545 = true
 rotate_left
 ·
  replace c4 := Bool.eq_false_iff.mpr c4
  subst c4
  rw [if_neg (show ¬ (false = true) by decide)] at H
  simp only [Option.some.injEq, Prod.mk.injEq] at H
  obtain ⟨rfl, rfl, rfl⟩ := H
  go_enter Try.func80, Try.ntmps80
  go_wp2_with (first | ((with_reducible refine gate_callee (f := 79) rfl ?_); refine goesL_ (some 13) rfl rfl Try.func79 z18_8 rfl #[.string a0, .int .i64 a1] rfl z18_7 ?_; (with_reducible refine (spec_ReadVar.calls k a0 a1 t543 t544 false _ A3.out).mono ?_); rintro e w13 ⟨rfl, hb⟩; refine ⟨_, rfl, ?_⟩; replace HB := Aside0.mk (below_step z18_4 hb)))
  go_ret3
  exact ⟨z18_6, z18_4⟩
 subst c4
 rw [if_pos rfl] at H
 by_cases c5 : t543 > 20000
 ·
  rw [if_pos c5] at H
  have c5b0 : decide (20000 < t543) = true := decide_eq_true c5
  clear c5
  simp only [Option.some.injEq, Prod.mk.injEq] at H
  obtain ⟨rfl, rfl, rfl⟩ := H
  go_enter Try.func80, Try.ntmps80
  go_wp2_with (first | ((with_reducible refine gate_callee (f := 79) rfl ?_); refine goesL_ (some 13) rfl rfl Try.func79 z18_8 rfl #[.string a0, .int .i64 a1] rfl z18_7 ?_; (with_reducible refine (spec_ReadVar.calls k a0 a1 t543 t544 true _ A3.out).mono ?_); rintro e w6 ⟨rfl, hb⟩; refine ⟨_, rfl, ?_⟩; replace HB := Aside0.mk (below_step z18_4 hb)))
  go_ret3
  exact ⟨z18_6, z18_4⟩
 rw [if_neg c5] at H
 have c5b0 : decide (20000 < t543) = false := decide_eq_false c5
 clear c5
 by_cases c7 : t543 > (wrap64 ((a0.size : Int) - t544))
 ·
  rw [if_pos c7] at H
  have c7b0 : decide ((wrap64 ((a0.size : Int) - t544)) < t543) = true := decide_eq_true c7
  clear c7
  simp only [Option.some.injEq, Prod.mk.injEq] at H
  obtain ⟨rfl, rfl, rfl⟩ := H
  go_enter Try.func80, Try.ntmps80
  go_wp2_with (first | ((with_reducible refine gate_callee (f := 79) rfl ?_); refine goesL_ (some 13) rfl rfl Try.func79 z18_8 rfl #[.string a0, .int .i64 a1] rfl z18_7 ?_; (with_reducible refine (spec_ReadVar.calls k a0 a1 t543 t544 true _ A3.out).mono ?_); rintro e w8 ⟨rfl, hb⟩; refine ⟨_, rfl, ?_⟩; replace HB := Aside0.mk (below_step z18_4 hb)))
  go_ret3
  exact ⟨z18_6, z18_4⟩
 rw [if_neg c7] at H
 have c7b0 : decide ((wrap64 ((a0.size : Int) - t544)) < t543) = false := decide_eq_false c7
 clear c7
 by_cases c9 : 0 ≤ t544
 rotate_left
 ·
  rw [if_neg c9] at H
  exact absurd H (by simp)
 rw [if_pos c9] at H
 have c9b0 := eq_true c9
 have c9b1 : decide (0 ≤ t544) = true := decide_eq_true c9
 clear c9
 by_cases c10 : t544 ≤ (wrap64 (t544 + t543))
 rotate_left
 ·
  rw [if_neg c10] at H
  exact absurd H (by simp)
 rw [if_pos c10] at H
 have c10b0 := eq_true c10
 have c10b1 : decide (t544 ≤ (wrap64 (t544 + t543))) = true := decide_eq_true c10
 by_cases c11 : (wrap64 (t544 + t543)) ≤ (a0.size : Int)
 rotate_left
 ·
  rw [if_neg c11] at H
  exact absurd H (by simp)
 rw [if_pos c11] at H
 have c11b0 := eq_true c11
 have c11b1 : decide ((wrap64 (t544 + t543)) ≤ (a0.size : Int)) = true := decide_eq_true c11
 simp only [Option.some.injEq, Prod.mk.injEq] at H
 obtain ⟨rfl, rfl, rfl⟩ := H
 go_enter Try.func80, Try.ntmps80
 go_wp2_with (first | ((with_reducible refine gate_callee (f := 79) rfl ?_); refine goesL_ (some 13) rfl rfl Try.func79 z18_8 rfl #[.string a0, .int .i64 a1] rfl z18_7 ?_; (with_reducible refine (spec_ReadVar.calls k a0 a1 t543 t544 true _ A3.out).mono ?_); rintro e w12 ⟨rfl, hb⟩; refine ⟨_, rfl, ?_⟩; replace HB := Aside0.mk (below_step z18_4 hb)))
 go_ret3
 exact ⟨z18_6, z18_4⟩
end Go.Proofs.Ythajpckfodhhpaa.QRA
