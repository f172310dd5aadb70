/- What the functions behind SOk compute, and that the program's calls come to just that. Written by a program of this session on the base of the kit's print. No condition. -/
import Derived.Test.YtbanogkoaplcdaaVFnExactStateOkShort
import Derived.Test.YtbanogkoaplcdaaVFnExactStateOkQSOkx0
import Derived.Test.YtbanogkoaplcdaaVFnExactStateOkQSOkx4
namespace Go.Proofs.Ytbanogkoaplcdaa.QSOk
open Go.RowKit Go.Proofs.Ytbanogkoaplcdaa.Short Go.Proofs.YtbanogkoaplcdaaW.PrintWords Go.Proofs.YtbanogkoaplcdaaW.PrintLast Go.Proofs.YtbanogkoaplcdaaW.PrintMore
attribute [local go_sem] max2_int min2_int max_two min_two max_three min_three max_four min_four   -- for this text's walks alone
set_option linter.unusedVariables false
set_option linter.unusedSimpArgs false
theorem z5_10 {P : Prop} (h : P := by kernel_rfl) : P := h
theorem z5_9 {P : Prop} (h : P := by first | (with_reducible assumption) | assumption) : P := h
theorem z5_8 {P : Prop} (h : P := by intro w'; go_simp; with_reducible rfl) : P := h
theorem z5_7 {P : Prop} (h : P := by first | rfl | (simp [errW_none, errW_some] <;> rfl) | (simp [*, errW_none, errW_some] <;> rfl)) : P := h
theorem z5_6 {P : Prop} (h : P := by first | rfl | (simp only [List.map_toArray, List.map_cons, List.map_nil]; first | done | rfl)) : P := h
theorem z5_5 {P : Prop} (h : P := by (with_reducible repeat (first | refine blk_drewN ?_ _ | refine blk_drew ?_ | refine blk_alloc ?_ _)); exact BK201.out) : P := h
theorem z5_4 {P : Prop} (h : P := by simp only [Act.put, List.setIfInBounds_toArray, List.set_cons_zero, List.set_cons_succ, i64_w, i32_w]; rfl) : P := h
theorem z5_3 {P : Prop} (h : P := by repeat (first | (with_reducible first | exact HB.out | apply below_alloc | apply pw_below_drewN | apply below_drew1 | refine below_set ?_ GE200.out | refine below_set ?_ GE201.out) | exact HB.out)) : P := h
theorem z5_2 {P : Prop} (h : P := by repeat (first | (with_reducible first | exact HB.out | apply below_alloc | apply pw_below_drewN | apply below_drew1 | refine below_set ?_ GE200.out) | exact HB.out)) : P := h
theorem z5_1 {P : Prop} (h : P := by (with_reducible repeat (first | refine blk_drewN ?_ _ | refine blk_drew ?_ | refine blk_alloc ?_ _)); exact BK200.out) : P := h
theorem z5_0 {P : Prop} (h : P := by repeat (first | (with_reducible first | exact HB.out | apply below_alloc | apply pw_below_drewN | apply below_drew1) | exact HB.out)) : P := h
abbrev mk5_0 : Array Bool := #[false, false, false, false, false, false, false, false, false, false]
abbrev mk5_1 : Array Bool := #[true, false, false, false, false, false, false, false, false, false]
abbrev mk5_2 : Array Bool := #[true, true, false, false, false, false, false, false, false, false]
abbrev mk5_3 : Array Bool := #[true, true, true, false, false, false, false, false, false, false]
abbrev mk5_4 : Array Bool := #[true, true, true, false, true, false, false, false, false, false]
abbrev mk5_5 : Array Bool := #[true, true, true, false, true, true, false, false, false, false]
abbrev mk5_6 : Array Bool := #[true, true, true, false, true, true, true, false, false, false]
abbrev mk5_7 : Array Bool := #[true, true, true, true, true, true, true, false, false, false]
abbrev mk5_8 : Array Bool := #[true, true, true, true, true, true, true, true, false, false]
abbrev mk5_9 : Array Bool := #[true, true, true, true, true, true, true, true, true, false]
abbrev mk5_10 : Array Bool := #[true, true, true, true, true, true, true, true, true, true]
def laws_eqLiveS.l0 : Nat → List (S86) → List (S86) → Int → Option (Bool)
  | 0, _, _, _ => none
  | k + 1, x0, x1, x5 => if x5 < (x0.length : Int) then (if 0 ≤ x5 then (if x5 < (x1.length : Int) then ((laws_eqLive.f ((rd_T86 x0 x5).f0) ((rd_T86 x0 x5).f1) ((rd_T86 x0 x5).f2) ((rd_T86 x0 x5).f3) ((rd_T86 x0 x5).f4.f0) ((rd_T86 x0 x5).f4.f1) ((rd_T86 x1 x5).f0) ((rd_T86 x1 x5).f1) ((rd_T86 x1 x5).f2) ((rd_T86 x1 x5).f3) ((rd_T86 x1 x5).f4.f0) ((rd_T86 x1 x5).f4.f1)).bind fun t199 => (if t199 = true then (laws_eqLiveS.l0 k x0 x1 (wrap64 (x5 + 1))) else (some false))) else (none)) else (none)) else (some true)
def laws_eqLiveS.f (k : Nat) (l0 : List (S86)) (l1 : List (S86)) : Option (Bool) := if (l0.length : Int) = (l1.length : Int) then (laws_eqLiveS.l0 k l0 l1 0) else (some false)
def laws_eqLiveS.T6 : Bool × List (List Nat × List Nat) := (true, [([], []), ([], []), ([0, 1], [0, 1]), ([2], [2]), ([], []), ([], []), ([4, 5], [4, 5]), ([6], [6]), ([3, 7], [3, 7]), ([8], [8])])
def laws_eqLiveS.B6 : List Nat := [0, 0, 3, 7, 0, 0, 48, 112, 255, 511]
theorem laws_eqLiveS.tab6 : rtab .any (opsOf Try.f49 6) = laws_eqLiveS.T6 := by kernel_rfl
theorem laws_eqLiveS.bits6 : waitsOk laws_eqLiveS.T6.2 laws_eqLiveS.B6 = true := by kernel_rfl
set_option maxHeartbeats 8000000 in
set_option maxRecDepth 100000 in
theorem laws_eqLiveS.calls (k : Nat) (A0 : Option Addr) (c0 : Nat) (l0 : List (S86)) (A1 : Option Addr) (c1 : Nat) (l1 : List (S86)) (r : Bool) (w : World) (hr0 : Kd.C k86 w A0 l0.length l0) (hc0 : l0.length ≤ c0) (hr1 : Kd.C k86 w A1 l1.length l1) (hc1 : l1.length ≤ c1) (h : laws_eqLiveS.f k l0 l1 = some r) :
  Calls Try.prog 49 #[.slice A0 l0.length c0, .slice A1 l1.length c1] w fun e w' => e = .returned (.bool r) ∧ Below w.heap.size w w' := by
 have hu86 := Try.underlying86
 have HR0 := Aside0.mk hr0
 have HC0 := Aside0.mk hc0
 clear hr0 hc0
 have HR1 := Aside0.mk hr1
 have HC1 := Aside0.mk hc1
 clear hr1 hc1
 have HB := Aside0.mk (Below.refl w.heap.size w)
 have H : (if (l0.length : Int) = (l1.length : Int) then (laws_eqLiveS.l0 k l0 l1 0) else (some false)) = some r := h
 clear h
 by_cases c3 : (l0.length : Int) = (l1.length : Int)
 ·
  rw [if_pos c3] at H
  have c3b0 : ((l0.length : Int) == (l1.length : Int)) = true := beq_iff_eq.mpr c3
  have c3b1 : ((l0.length : Int) != (l1.length : Int)) = false := bne_eq_false_iff_eq.mpr c3
  have c3b2 : (l0.length == l1.length) = true := by first | simpa using c3 | (simp at c3 ⊢; omega)
  clear c3
  have H' := Aside0.mk H
  clear H
  go_enter Try.func49, Try.ntmps49
  go_wp2
  go_loopg [5] k (fun kq v5 w' => ∃ (x5_1 : Int), v5 = .int .i64 x5_1 ∧ Aside0 (laws_eqLiveS.l0 kq l0 l1 x5_1 = some r) ∧ Aside0 (kq ≤ k) ∧ Aside0 (Below w.heap.size w w'))
  case atStart => exact ⟨(0), (by first | rfl | (simp; done) | (simp [*]; done)), H', ⟨Nat.le_refl _⟩, ⟨z5_0⟩⟩
  case round =>
   clear H'
   try clear c1
   try clear p2
   try clear c3
   try clear c3b0
   try clear c3b1
   try clear c3b2
   obtain ⟨x5_1, rfl, HA, HK1, HB⟩ := hrel
   cases gk with
   | zero => exact absurd HA.out (by simp [laws_eqLiveS.l0])
   | succ k1 =>
    have H := HA.out
    clear HA
    simp only [laws_eqLiveS.l0] at H
    by_cases c4 : x5_1 < (l0.length : Int)
    ·
     rw [if_pos c4] at H
     have c4b0 : decide (x5_1 < (l0.length : Int)) = true := decide_eq_true c4
     clear c4
     by_cases c5 : 0 ≤ x5_1
     ·
      rw [if_pos c5] at H
      have c5b0 : decide (0 ≤ x5_1) = true := decide_eq_true c5
      clear c5
      by_cases c6 : x5_1 < (l1.length : Int)
      ·
       rw [if_pos c6] at H
       have c6b0 : decide (x5_1 < (l1.length : Int)) = true := decide_eq_true c6
       clear c6
       replace H := Option.bind_eq_some_iff.mp H
       obtain ⟨t199, A70, H⟩ := H
       (try dsimp only at H)
       have A7 := Aside0.mk A70
       clear A70
       by_cases c8 : t199 = true
       ·
        subst c8
        rw [if_pos rfl] at H
        have H' := Aside0.mk H
        clear H
        try go_wp2
        replace HB := Aside0.mk (below_drew1 HB.out)
        have p197 : 0 ≤ (x5_1 : Int) := of_decide_eq_true z5_9
        have q197 : x5_1 < (l0.length : Int) := of_decide_eq_true z5_9
        obtain ⟨ad197, e197, hx197_0, hx197_1, hx197_2, hx197_3, hx197_4, hx197_5⟩ := at_T86 HR0.out x5_1 p197 q197
        have hw197_5 := hx197_5
        have hw197_4 := hx197_4
        have hw197_3 := hx197_3
        have hw197_2 := hx197_2
        have hw197_1 := hx197_1
        have hw197_0 := hx197_0
        cases e197
        replace hx197_0 := cb_ HB hx197_0
        replace hx197_1 := cb_ HB hx197_1
        replace hx197_2 := cb_ HB hx197_2
        replace hx197_3 := cb_ HB hx197_3
        replace hx197_4 := cb_ HB hx197_4
        replace hx197_5 := cb_ HB hx197_5
        replace p197 := eq_true p197
        replace q197 := eq_true q197
        have p198 : 0 ≤ (x5_1 : Int) := of_decide_eq_true z5_9
        have q198 : x5_1 < (l1.length : Int) := of_decide_eq_true z5_9
        obtain ⟨ad198, e198, hx198_0, hx198_1, hx198_2, hx198_3, hx198_4, hx198_5⟩ := at_T86 HR1.out x5_1 p198 q198
        have hw198_5 := hx198_5
        have hw198_4 := hx198_4
        have hw198_3 := hx198_3
        have hw198_2 := hx198_2
        have hw198_1 := hx198_1
        have hw198_0 := hx198_0
        cases e198
        replace hx198_0 := cb_ HB hx198_0
        replace hx198_1 := cb_ HB hx198_1
        replace hx198_2 := cb_ HB hx198_2
        replace hx198_3 := cb_ HB hx198_3
        replace hx198_4 := cb_ HB hx198_4
        replace hx198_5 := cb_ HB hx198_5
        replace p198 := eq_true p198
        replace q198 := eq_true q198
        refine start_ (n := 10) (S := fun w' => w'.cell? (ad197.add ((x5_1).toNat * 6)) = some (.bool ((rd_T86 l0 x5_1).f0)) ∧ w'.cell? ⟨(ad197.add ((x5_1).toNat * 6)).block, (ad197.add ((x5_1).toNat * 6)).off + 1, none⟩ = some (.string ((rd_T86 l0 x5_1).f1)) ∧ w'.cell? ⟨(ad197.add ((x5_1).toNat * 6)).block, (ad197.add ((x5_1).toNat * 6)).off + 2, none⟩ = some (.string ((rd_T86 l0 x5_1).f2)) ∧ w'.cell? ⟨(ad197.add ((x5_1).toNat * 6)).block, (ad197.add ((x5_1).toNat * 6)).off + 3, none⟩ = some (.int .i64 ((rd_T86 l0 x5_1).f3)) ∧ w'.cell? ⟨(ad197.add ((x5_1).toNat * 6)).block, (ad197.add ((x5_1).toNat * 6)).off + 4, none⟩ = some (.int .i64 ((rd_T86 l0 x5_1).f4.f0)) ∧ w'.cell? ⟨(ad197.add ((x5_1).toNat * 6)).block, (ad197.add ((x5_1).toNat * 6)).off + 5, none⟩ = some (.int .i64 ((rd_T86 l0 x5_1).f4.f1)) ∧ w'.cell? (ad198.add ((x5_1).toNat * 6)) = some (.bool ((rd_T86 l1 x5_1).f0)) ∧ w'.cell? ⟨(ad198.add ((x5_1).toNat * 6)).block, (ad198.add ((x5_1).toNat * 6)).off + 1, none⟩ = some (.string ((rd_T86 l1 x5_1).f1)) ∧ w'.cell? ⟨(ad198.add ((x5_1).toNat * 6)).block, (ad198.add ((x5_1).toNat * 6)).off + 2, none⟩ = some (.string ((rd_T86 l1 x5_1).f2)) ∧ w'.cell? ⟨(ad198.add ((x5_1).toNat * 6)).block, (ad198.add ((x5_1).toNat * 6)).off + 3, none⟩ = some (.int .i64 ((rd_T86 l1 x5_1).f3)) ∧ w'.cell? ⟨(ad198.add ((x5_1).toNat * 6)).block, (ad198.add ((x5_1).toNat * 6)).off + 4, none⟩ = some (.int .i64 ((rd_T86 l1 x5_1).f4.f0)) ∧ w'.cell? ⟨(ad198.add ((x5_1).toNat * 6)).block, (ad198.add ((x5_1).toNat * 6)).off + 5, none⟩ = some (.int .i64 ((rd_T86 l1 x5_1).f4.f1))) (ds := []) mk5_0 z5_10 rfl rfl ⟨(cb_ HB hw197_0), (cb_ HB hw197_1), (cb_ HB hw197_2), (cb_ HB hw197_3), (cb_ HB hw197_4), (cb_ HB hw197_5), (cb_ HB hw198_0), (cb_ HB hw198_1), (cb_ HB hw198_2), (cb_ HB hw198_3), (cb_ HB hw198_4), (cb_ HB hw198_5)⟩ (fun hHeld => ?_); refine with_tabW laws_eqLiveS.tab6 laws_eqLiveS.bits6 (fun HT_ HW_ => ?_)
        generalize wr.drew = w9 at HB hx197_0 hx197_1 hx197_2 hx197_3 hx197_4 hx197_5 hx198_0 hx198_1 hx198_2 hx198_3 hx198_4 hx198_5 hHeld ⊢
        refine p_ (i := 0) (N := some 17) mk5_1 ?_ (hv := z5_8) (ha := z5_4)
        refine p_ (i := 1) (N := some 18) mk5_2 ?_ (hv := z5_8) (ha := z5_4)
        refine p_ (i := 2) (N := some 19) mk5_3 ?_ (hv := z5_8) (ha := z5_4)
        refine p_ (i := 4) (N := some 21) mk5_4 ?_ (hv := z5_8) (ha := z5_4)
        refine p_ (i := 5) (N := some 22) mk5_5 ?_ (hv := z5_8) (ha := z5_4)
        refine p_ (i := 6) (N := some 23) mk5_6 ?_ (hv := z5_8) (ha := z5_4)
        refine t_ (i := 3) (N := some 20) mk5_7 hHeld ?_ (hv := by rintro w' ⟨s0, s1, s2, s3, s4, s5, s6, s7, s8, s9, s10, s11⟩; go_simp; with_reducible rfl) (ha := z5_4)
        refine t_ (i := 7) (N := some 24) mk5_8 hHeld ?_ (hv := by rintro w' ⟨s0, s1, s2, s3, s4, s5, s6, s7, s8, s9, s10, s11⟩; go_simp; with_reducible rfl) (ha := z5_4)
        refine o_ (i := 8) (N := some 25) mk5_9 (fun K hK => ?_)
        refine goes_ Try.func100 z5_10 rfl #[.agg #[.bool ((rd_T86 l0 x5_1).f0), .string ((rd_T86 l0 x5_1).f1), .string ((rd_T86 l0 x5_1).f2), .int .i64 ((rd_T86 l0 x5_1).f3), .int .i64 ((rd_T86 l0 x5_1).f4.f0), .int .i64 ((rd_T86 l0 x5_1).f4.f1)], .agg #[.bool ((rd_T86 l1 x5_1).f0), .string ((rd_T86 l1 x5_1).f1), .string ((rd_T86 l1 x5_1).f2), .int .i64 ((rd_T86 l1 x5_1).f3), .int .i64 ((rd_T86 l1 x5_1).f4.f0), .int .i64 ((rd_T86 l1 x5_1).f4.f1)]] (by rfl) rfl rfl z5_6 ?_
        with_reducible refine (laws_eqLive.calls ((rd_T86 l0 x5_1).f0) ((rd_T86 l0 x5_1).f1) ((rd_T86 l0 x5_1).f2) ((rd_T86 l0 x5_1).f3) ((rd_T86 l0 x5_1).f4.f0) ((rd_T86 l0 x5_1).f4.f1) ((rd_T86 l1 x5_1).f0) ((rd_T86 l1 x5_1).f1) ((rd_T86 l1 x5_1).f2) ((rd_T86 l1 x5_1).f3) ((rd_T86 l1 x5_1).f4.f0) ((rd_T86 l1 x5_1).f4.f1) true _ A7.out).mono ?_
        rintro e w10 ⟨rfl, hb⟩
        refine ⟨_, rfl, ?_⟩
        replace HB := Aside0.mk (below_step z5_0 hb)
        (try clear hb)
        (try clear hb2)
        (try clear hk)
        (try clear hi)
        refine hK.out _ _ ⟨(cb_ HB hw197_0), (cb_ HB hw197_1), (cb_ HB hw197_2), (cb_ HB hw197_3), (cb_ HB hw197_4), (cb_ HB hw197_5), (cb_ HB hw198_0), (cb_ HB hw198_1), (cb_ HB hw198_2), (cb_ HB hw198_3), (cb_ HB hw198_4), (cb_ HB hw198_5)⟩ (fun hHeld => ?_)
        clear hK K
        refine n_ ?_
        refine p_ (i := 9) (N := some 26) mk5_10 ?_ (hv := z5_8) (ha := z5_4)
        refine done_ (done_of HT_.out z5_10) ?_
        try go_wp2
        go_roundg k1
        case measure => have := HK1.out; omega
        case rel => exact ⟨(wrap64 (x5_1 + 1)), (by first | rfl | (simp; done) | (simp [*]; done)), H', ⟨by have := HK1.out; omega⟩, ⟨z5_0⟩⟩
       ·
        replace c8 := Bool.eq_false_iff.mpr c8
        subst c8
        rw [if_neg (show ¬ (false = true) by decide)] at H
        obtain rfl := Option.some.inj H
        try go_wp2
        replace HB := Aside0.mk (below_drew1 HB.out)
        have p197 : 0 ≤ (x5_1 : Int) := of_decide_eq_true z5_9
        have q197 : x5_1 < (l0.length : Int) := of_decide_eq_true z5_9
        obtain ⟨ad197, e197, hx197_0, hx197_1, hx197_2, hx197_3, hx197_4, hx197_5⟩ := at_T86 HR0.out x5_1 p197 q197
        have hw197_5 := hx197_5
        have hw197_4 := hx197_4
        have hw197_3 := hx197_3
        have hw197_2 := hx197_2
        have hw197_1 := hx197_1
        have hw197_0 := hx197_0
        cases e197
        replace hx197_0 := cb_ HB hx197_0
        replace hx197_1 := cb_ HB hx197_1
        replace hx197_2 := cb_ HB hx197_2
        replace hx197_3 := cb_ HB hx197_3
        replace hx197_4 := cb_ HB hx197_4
        replace hx197_5 := cb_ HB hx197_5
        replace p197 := eq_true p197
        replace q197 := eq_true q197
        have p198 : 0 ≤ (x5_1 : Int) := of_decide_eq_true z5_9
        have q198 : x5_1 < (l1.length : Int) := of_decide_eq_true z5_9
        obtain ⟨ad198, e198, hx198_0, hx198_1, hx198_2, hx198_3, hx198_4, hx198_5⟩ := at_T86 HR1.out x5_1 p198 q198
        have hw198_5 := hx198_5
        have hw198_4 := hx198_4
        have hw198_3 := hx198_3
        have hw198_2 := hx198_2
        have hw198_1 := hx198_1
        have hw198_0 := hx198_0
        cases e198
        replace hx198_0 := cb_ HB hx198_0
        replace hx198_1 := cb_ HB hx198_1
        replace hx198_2 := cb_ HB hx198_2
        replace hx198_3 := cb_ HB hx198_3
        replace hx198_4 := cb_ HB hx198_4
        replace hx198_5 := cb_ HB hx198_5
        replace p198 := eq_true p198
        replace q198 := eq_true q198
        refine start_ (n := 10) (S := fun w' => w'.cell? (ad197.add ((x5_1).toNat * 6)) = some (.bool ((rd_T86 l0 x5_1).f0)) ∧ w'.cell? ⟨(ad197.add ((x5_1).toNat * 6)).block, (ad197.add ((x5_1).toNat * 6)).off + 1, none⟩ = some (.string ((rd_T86 l0 x5_1).f1)) ∧ w'.cell? ⟨(ad197.add ((x5_1).toNat * 6)).block, (ad197.add ((x5_1).toNat * 6)).off + 2, none⟩ = some (.string ((rd_T86 l0 x5_1).f2)) ∧ w'.cell? ⟨(ad197.add ((x5_1).toNat * 6)).block, (ad197.add ((x5_1).toNat * 6)).off + 3, none⟩ = some (.int .i64 ((rd_T86 l0 x5_1).f3)) ∧ w'.cell? ⟨(ad197.add ((x5_1).toNat * 6)).block, (ad197.add ((x5_1).toNat * 6)).off + 4, none⟩ = some (.int .i64 ((rd_T86 l0 x5_1).f4.f0)) ∧ w'.cell? ⟨(ad197.add ((x5_1).toNat * 6)).block, (ad197.add ((x5_1).toNat * 6)).off + 5, none⟩ = some (.int .i64 ((rd_T86 l0 x5_1).f4.f1)) ∧ w'.cell? (ad198.add ((x5_1).toNat * 6)) = some (.bool ((rd_T86 l1 x5_1).f0)) ∧ w'.cell? ⟨(ad198.add ((x5_1).toNat * 6)).block, (ad198.add ((x5_1).toNat * 6)).off + 1, none⟩ = some (.string ((rd_T86 l1 x5_1).f1)) ∧ w'.cell? ⟨(ad198.add ((x5_1).toNat * 6)).block, (ad198.add ((x5_1).toNat * 6)).off + 2, none⟩ = some (.string ((rd_T86 l1 x5_1).f2)) ∧ w'.cell? ⟨(ad198.add ((x5_1).toNat * 6)).block, (ad198.add ((x5_1).toNat * 6)).off + 3, none⟩ = some (.int .i64 ((rd_T86 l1 x5_1).f3)) ∧ w'.cell? ⟨(ad198.add ((x5_1).toNat * 6)).block, (ad198.add ((x5_1).toNat * 6)).off + 4, none⟩ = some (.int .i64 ((rd_T86 l1 x5_1).f4.f0)) ∧ w'.cell? ⟨(ad198.add ((x5_1).toNat * 6)).block, (ad198.add ((x5_1).toNat * 6)).off + 5, none⟩ = some (.int .i64 ((rd_T86 l1 x5_1).f4.f1))) (ds := []) mk5_0 z5_10 rfl rfl ⟨(cb_ HB hw197_0), (cb_ HB hw197_1), (cb_ HB hw197_2), (cb_ HB hw197_3), (cb_ HB hw197_4), (cb_ HB hw197_5), (cb_ HB hw198_0), (cb_ HB hw198_1), (cb_ HB hw198_2), (cb_ HB hw198_3), (cb_ HB hw198_4), (cb_ HB hw198_5)⟩ (fun hHeld => ?_); refine with_tabW laws_eqLiveS.tab6 laws_eqLiveS.bits6 (fun HT_ HW_ => ?_)
        generalize wr.drew = w11 at HB hx197_0 hx197_1 hx197_2 hx197_3 hx197_4 hx197_5 hx198_0 hx198_1 hx198_2 hx198_3 hx198_4 hx198_5 hHeld ⊢
        refine p_ (i := 0) (N := some 17) mk5_1 ?_ (hv := z5_8) (ha := z5_4)
        refine p_ (i := 1) (N := some 18) mk5_2 ?_ (hv := z5_8) (ha := z5_4)
        refine p_ (i := 2) (N := some 19) mk5_3 ?_ (hv := z5_8) (ha := z5_4)
        refine p_ (i := 4) (N := some 21) mk5_4 ?_ (hv := z5_8) (ha := z5_4)
        refine p_ (i := 5) (N := some 22) mk5_5 ?_ (hv := z5_8) (ha := z5_4)
        refine p_ (i := 6) (N := some 23) mk5_6 ?_ (hv := z5_8) (ha := z5_4)
        refine t_ (i := 3) (N := some 20) mk5_7 hHeld ?_ (hv := by rintro w' ⟨s0, s1, s2, s3, s4, s5, s6, s7, s8, s9, s10, s11⟩; go_simp; with_reducible rfl) (ha := z5_4)
        refine t_ (i := 7) (N := some 24) mk5_8 hHeld ?_ (hv := by rintro w' ⟨s0, s1, s2, s3, s4, s5, s6, s7, s8, s9, s10, s11⟩; go_simp; with_reducible rfl) (ha := z5_4)
        refine o_ (i := 8) (N := some 25) mk5_9 (fun K hK => ?_)
        refine goes_ Try.func100 z5_10 rfl #[.agg #[.bool ((rd_T86 l0 x5_1).f0), .string ((rd_T86 l0 x5_1).f1), .string ((rd_T86 l0 x5_1).f2), .int .i64 ((rd_T86 l0 x5_1).f3), .int .i64 ((rd_T86 l0 x5_1).f4.f0), .int .i64 ((rd_T86 l0 x5_1).f4.f1)], .agg #[.bool ((rd_T86 l1 x5_1).f0), .string ((rd_T86 l1 x5_1).f1), .string ((rd_T86 l1 x5_1).f2), .int .i64 ((rd_T86 l1 x5_1).f3), .int .i64 ((rd_T86 l1 x5_1).f4.f0), .int .i64 ((rd_T86 l1 x5_1).f4.f1)]] (by rfl) rfl rfl z5_6 ?_
        with_reducible refine (laws_eqLive.calls ((rd_T86 l0 x5_1).f0) ((rd_T86 l0 x5_1).f1) ((rd_T86 l0 x5_1).f2) ((rd_T86 l0 x5_1).f3) ((rd_T86 l0 x5_1).f4.f0) ((rd_T86 l0 x5_1).f4.f1) ((rd_T86 l1 x5_1).f0) ((rd_T86 l1 x5_1).f1) ((rd_T86 l1 x5_1).f2) ((rd_T86 l1 x5_1).f3) ((rd_T86 l1 x5_1).f4.f0) ((rd_T86 l1 x5_1).f4.f1) false _ A7.out).mono ?_
        rintro e w12 ⟨rfl, hb⟩
        refine ⟨_, rfl, ?_⟩
        replace HB := Aside0.mk (below_step z5_0 hb)
        (try clear hb)
        (try clear hb2)
        (try clear hk)
        (try clear hi)
        refine hK.out _ _ ⟨(cb_ HB hw197_0), (cb_ HB hw197_1), (cb_ HB hw197_2), (cb_ HB hw197_3), (cb_ HB hw197_4), (cb_ HB hw197_5), (cb_ HB hw198_0), (cb_ HB hw198_1), (cb_ HB hw198_2), (cb_ HB hw198_3), (cb_ HB hw198_4), (cb_ HB hw198_5)⟩ (fun hHeld => ?_)
        clear hK K
        refine n_ ?_
        refine p_ (i := 9) (N := some 26) mk5_10 ?_ (hv := z5_8) (ha := z5_4)
        refine done_ (done_of HT_.out z5_10) ?_
        try go_wp2
        go_ret
        exact ⟨z5_7, z5_0⟩
      ·
       rw [if_neg c6] at H
       exact absurd H (by simp)
     ·
      rw [if_neg c5] at H
      exact absurd H (by simp)
    ·
     rw [if_neg c4] at H
     have c4b0 : decide (x5_1 < (l0.length : Int)) = false := decide_eq_false c4
     clear c4
     obtain rfl := Option.some.inj H
     go_wp2
     go_ret
     exact ⟨z5_7, z5_0⟩
 ·
  rw [if_neg c3] at H
  have c3b0 : ((l0.length : Int) == (l1.length : Int)) = false := beq_eq_false_iff_ne.mpr c3
  have c3b1 : ((l0.length : Int) != (l1.length : Int)) = true := bne_iff_ne.mpr c3
  have c3b2 : (l0.length == l1.length) = false := by first | simpa using c3 | (simp at c3 ⊢; omega)
  obtain rfl := Option.some.inj H
  go_enter Try.func49, Try.ntmps49
  go_wp2
  go_ret
  exact ⟨z5_7, z5_0⟩
def laws_eqCell.f (a0_0 : ByteArray) (a0_1 : Int) (a0_2 : Int) (a0_3 : Int) (a0_4 : Int) (a0_5 : Int) (a0_6 : Int) (a0_7 : Bool) (a1_0 : ByteArray) (a1_1 : Int) (a1_2 : Int) (a1_3 : Int) (a1_4 : Int) (a1_5 : Int) (a1_6 : Int) (a1_7 : Bool) : Option (Bool) := if a0_0.toList = a1_0.toList then ((laws_eqDot.f a0_1 a0_2 a1_1 a1_2).bind fun t202 => (if t202 = true then (if a0_3 = a1_3 then ((laws_eqDot.f a0_4 a0_5 a1_4 a1_5).bind fun t203 => (if t203 = true then (if a0_6 = a1_6 then (if (a0_7 != a1_7) = true then (some false) else (some true)) else (some false)) else (some false))) else (some false)) else (some false))) else (some false)
set_option maxHeartbeats 8000000 in
set_option maxRecDepth 100000 in
theorem laws_eqCell.calls (a0_0 : ByteArray) (a0_1 : Int) (a0_2 : Int) (a0_3 : Int) (a0_4 : Int) (a0_5 : Int) (a0_6 : Int) (a0_7 : Bool) (a1_0 : ByteArray) (a1_1 : Int) (a1_2 : Int) (a1_3 : Int) (a1_4 : Int) (a1_5 : Int) (a1_6 : Int) (a1_7 : Bool) (r : Bool) (w : World) (h : laws_eqCell.f a0_0 a0_1 a0_2 a0_3 a0_4 a0_5 a0_6 a0_7 a1_0 a1_1 a1_2 a1_3 a1_4 a1_5 a1_6 a1_7 = some r) :
  Calls Try.prog 101 #[.agg #[.string a0_0, .int .i64 a0_1, .int .i64 a0_2, .int .i64 a0_3, .int .i64 a0_4, .int .i64 a0_5, .int .i64 a0_6, .bool a0_7], .agg #[.string a1_0, .int .i64 a1_1, .int .i64 a1_2, .int .i64 a1_3, .int .i64 a1_4, .int .i64 a1_5, .int .i64 a1_6, .bool a1_7]] w fun e w' => e = .returned (.bool r) ∧ Below w.heap.size w w' := by
 have hu73 := Try.underlying73
 have hu38 := Try.underlying38
 have HB := Aside0.mk (Below.refl w.heap.size w)
 have H : (if a0_0.toList = a1_0.toList then ((laws_eqDot.f a0_1 a0_2 a1_1 a1_2).bind fun t202 => (if t202 = true then (if a0_3 = a1_3 then ((laws_eqDot.f a0_4 a0_5 a1_4 a1_5).bind fun t203 => (if t203 = true then (if a0_6 = a1_6 then (if (a0_7 != a1_7) = true then (some false) else (some true)) else (some false)) else (some false))) else (some false)) else (some false))) else (some false)) = some r := h
 clear h
 by_cases c3 : a0_0.toList = a1_0.toList
 ·
  rw [if_pos c3] at H
  have c3b0 : (a0_0.toList == a1_0.toList) = true := beq_iff_eq.mpr c3
  have c3b1 : (a0_0.toList != a1_0.toList) = false := bne_eq_false_iff_eq.mpr c3
  clear c3
  replace H := Option.bind_eq_some_iff.mp H
  obtain ⟨t202, A40, H⟩ := H
  (try dsimp only at H)
  have A4 := Aside0.mk A40
  clear A40
  by_cases c5 : t202 = true
  ·
   subst c5
   rw [if_pos rfl] at H
   by_cases c6 : a0_3 = a1_3
   ·
    rw [if_pos c6] at H
    have c6b0 : (a0_3 == a1_3) = true := beq_iff_eq.mpr c6
    have c6b1 : (a0_3 != a1_3) = false := bne_eq_false_iff_eq.mpr c6
    clear c6
    replace H := Option.bind_eq_some_iff.mp H
    obtain ⟨t203, A70, H⟩ := H
    (try dsimp only at H)
    have A7 := Aside0.mk A70
    clear A70
    by_cases c8 : t203 = true
    ·
     subst c8
     rw [if_pos rfl] at H
     by_cases c9 : a0_6 = a1_6
     ·
      rw [if_pos c9] at H
      have c9b0 : (a0_6 == a1_6) = true := beq_iff_eq.mpr c9
      have c9b1 : (a0_6 != a1_6) = false := bne_eq_false_iff_eq.mpr c9
      clear c9
      by_cases c10 : (a0_7 != a1_7) = true
      ·
       rw [if_pos c10] at H
       have c10b0 : (a0_7 != a1_7) = true := c10
       (try (have c10b1 : decide (a0_7 = a1_7) = false := by simpa using c10))
       (try (have c10b2 : (a0_7 == a1_7) = false := by simpa using c10))
       (try (have c10b3 : ¬ (a0_7 = a1_7) := by simpa using c10))
       clear c10
       obtain rfl := Option.some.inj H
       go_enter Try.func101, Try.ntmps101
       go_wp2_with (first | ((with_reducible refine gate_dst (N := 2) rfl ?_); refine box_event ?hg (N := 2) ?hd (cs := #[.string a0_0, .int .i64 a0_1, .int .i64 a0_2, .int .i64 a0_3, .int .i64 a0_4, .int .i64 a0_5, .int .i64 a0_6, .bool a0_7]) (t := 73) ?hr ?_; (case hd => rfl); (case hg => rfl); (case hr => first | (go_simp; done) | (go_simp; rfl)); intro gb200 hg w11 hbox hb; have BK200 := Aside0.mk (hbox); have GW200 := gw_ w z5_0 hg; have GE200 := gw_ w z5_0 hg; replace HB := Aside0.mk (below_step z5_0 hb); clear hb hbox hg) | ((with_reducible refine gate_dst (N := 3) rfl ?_); refine box_event ?hg (N := 3) ?hd (cs := #[.string a1_0, .int .i64 a1_1, .int .i64 a1_2, .int .i64 a1_3, .int .i64 a1_4, .int .i64 a1_5, .int .i64 a1_6, .bool a1_7]) (t := 73) ?hr ?_; (case hd => rfl); (case hg => rfl); (case hr => first | (go_simp; done) | (go_simp; rfl)); intro gb201 hg w12 hbox hb; have BK201 := Aside0.mk (hbox); have GW201 := gw_ w z5_2 hg; have GE201 := gw_ w z5_2 hg; replace HB := Aside0.mk (below_step z5_2 hb); have NB200_201 := Aside0.mk ((by rw [hg]; exact Nat.ne_of_lt (blk_lt (g := gb200) (o := .cells #[.string a0_0, .int .i64 a0_1, .int .i64 a0_2, .int .i64 a0_3, .int .i64 a0_4, .int .i64 a0_5, .int .i64 a0_6, .bool a0_7] 73 (0, 0)) z5_1) : gb200 ≠ gb201)); have NB201_200 := Aside0.mk ((by rw [hg]; exact Nat.ne_of_gt (blk_lt (g := gb200) (o := .cells #[.string a0_0, .int .i64 a0_1, .int .i64 a0_2, .int .i64 a0_3, .int .i64 a0_4, .int .i64 a0_5, .int .i64 a0_6, .bool a0_7] 73 (0, 0)) z5_1) : gb201 ≠ gb200)); replace BK200 := Aside0.mk (blk_below (g := gb200) (o := .cells #[.string a0_0, .int .i64 a0_1, .int .i64 a0_2, .int .i64 a0_3, .int .i64 a0_4, .int .i64 a0_5, .int .i64 a0_6, .bool a0_7] 73 (0, 0)) z5_1 hb); clear hb hbox hg; have hnb13 := NB200_201.out; have hnc13 := NB201_200.out; obtain ⟨hcz14_0, hcz14_1, hcz14_2, hcz14_3, hcz14_4, hcz14_5, hcz14_6, hcz14_7, hfz14_0, hfz14_1, hfz14_2, hfz14_3, hfz14_4, hfz14_5, hfz14_6, hfz14_7⟩ := bc8 BK200.out; obtain ⟨hcz15_0, hcz15_1, hcz15_2, hcz15_3, hcz15_4, hcz15_5, hcz15_6, hcz15_7, hfz15_0, hfz15_1, hfz15_2, hfz15_3, hfz15_4, hfz15_5, hfz15_6, hfz15_7⟩ := bc8 BK201.out) | ((with_reducible refine gate_callee (f := 80) rfl ?_); refine goesL_ (some 14) rfl rfl Try.func80 z5_10 rfl #[.agg #[.int .i64 a0_1, .int .i64 a0_2], .agg #[.int .i64 a1_1, .int .i64 a1_2]] rfl z5_6 ?_; (with_reducible refine (laws_eqDot.calls a0_1 a0_2 a1_1 a1_2 true _ A4.out).mono ?_); rintro e w16 ⟨rfl, hb⟩; refine ⟨_, rfl, ?_⟩; replace BK200 := Aside0.mk (blk_below (g := gb200) (o := .cells #[.string a0_0, .int .i64 a0_1, .int .i64 a0_2, .int .i64 a0_3, .int .i64 a0_4, .int .i64 a0_5, .int .i64 a0_6, .bool a0_7] 73 (0, 0)) z5_1 hb); replace BK201 := Aside0.mk (blk_below (g := gb201) (o := .cells #[.string a1_0, .int .i64 a1_1, .int .i64 a1_2, .int .i64 a1_3, .int .i64 a1_4, .int .i64 a1_5, .int .i64 a1_6, .bool a1_7] 73 (0, 0)) z5_5 hb); replace HB := Aside0.mk (below_step z5_3 hb); obtain ⟨hcz17_0, hcz17_1, hcz17_2, hcz17_3, hcz17_4, hcz17_5, hcz17_6, hcz17_7, hfz17_0, hfz17_1, hfz17_2, hfz17_3, hfz17_4, hfz17_5, hfz17_6, hfz17_7⟩ := bc8 BK200.out; obtain ⟨hcz18_0, hcz18_1, hcz18_2, hcz18_3, hcz18_4, hcz18_5, hcz18_6, hcz18_7, hfz18_0, hfz18_1, hfz18_2, hfz18_3, hfz18_4, hfz18_5, hfz18_6, hfz18_7⟩ := bc8 BK201.out) | ((with_reducible refine gate_callee (f := 80) rfl ?_); refine goesL_ (some 25) rfl rfl Try.func80 z5_10 rfl #[.agg #[.int .i64 a0_4, .int .i64 a0_5], .agg #[.int .i64 a1_4, .int .i64 a1_5]] rfl z5_6 ?_; (with_reducible refine (laws_eqDot.calls a0_4 a0_5 a1_4 a1_5 true _ A7.out).mono ?_); rintro e w19 ⟨rfl, hb⟩; refine ⟨_, rfl, ?_⟩; replace BK200 := Aside0.mk (blk_below (g := gb200) (o := .cells #[.string a0_0, .int .i64 a0_1, .int .i64 a0_2, .int .i64 a0_3, .int .i64 a0_4, .int .i64 a0_5, .int .i64 a0_6, .bool a0_7] 73 (0, 0)) z5_1 hb); replace BK201 := Aside0.mk (blk_below (g := gb201) (o := .cells #[.string a1_0, .int .i64 a1_1, .int .i64 a1_2, .int .i64 a1_3, .int .i64 a1_4, .int .i64 a1_5, .int .i64 a1_6, .bool a1_7] 73 (0, 0)) z5_5 hb); replace HB := Aside0.mk (below_step z5_3 hb); obtain ⟨hcz20_0, hcz20_1, hcz20_2, hcz20_3, hcz20_4, hcz20_5, hcz20_6, hcz20_7, hfz20_0, hfz20_1, hfz20_2, hfz20_3, hfz20_4, hfz20_5, hfz20_6, hfz20_7⟩ := bc8 BK200.out; obtain ⟨hcz21_0, hcz21_1, hcz21_2, hcz21_3, hcz21_4, hcz21_5, hcz21_6, hcz21_7, hfz21_0, hfz21_1, hfz21_2, hfz21_3, hfz21_4, hfz21_5, hfz21_6, hfz21_7⟩ := bc8 BK201.out))
       go_ret
       exact ⟨z5_7, z5_3⟩
      ·
       rw [if_neg c10] at H
       have c10b0 : (a0_7 != a1_7) = false := by simpa using c10
       (try (have c10b1 : decide (a0_7 = a1_7) = true := by simpa using c10))
       (try (have c10b2 : (a0_7 == a1_7) = true := by simpa using c10))
       clear c10
       obtain rfl := Option.some.inj H
       go_enter Try.func101, Try.ntmps101
       go_wp2_with (first | ((with_reducible refine gate_dst (N := 2) rfl ?_); refine box_event ?hg (N := 2) ?hd (cs := #[.string a0_0, .int .i64 a0_1, .int .i64 a0_2, .int .i64 a0_3, .int .i64 a0_4, .int .i64 a0_5, .int .i64 a0_6, .bool a0_7]) (t := 73) ?hr ?_; (case hd => rfl); (case hg => rfl); (case hr => first | (go_simp; done) | (go_simp; rfl)); intro gb200 hg w22 hbox hb; have BK200 := Aside0.mk (hbox); have GW200 := gw_ w z5_0 hg; have GE200 := gw_ w z5_0 hg; replace HB := Aside0.mk (below_step z5_0 hb); clear hb hbox hg) | ((with_reducible refine gate_dst (N := 3) rfl ?_); refine box_event ?hg (N := 3) ?hd (cs := #[.string a1_0, .int .i64 a1_1, .int .i64 a1_2, .int .i64 a1_3, .int .i64 a1_4, .int .i64 a1_5, .int .i64 a1_6, .bool a1_7]) (t := 73) ?hr ?_; (case hd => rfl); (case hg => rfl); (case hr => first | (go_simp; done) | (go_simp; rfl)); intro gb201 hg w23 hbox hb; have BK201 := Aside0.mk (hbox); have GW201 := gw_ w z5_2 hg; have GE201 := gw_ w z5_2 hg; replace HB := Aside0.mk (below_step z5_2 hb); have NB200_201 := Aside0.mk ((by rw [hg]; exact Nat.ne_of_lt (blk_lt (g := gb200) (o := .cells #[.string a0_0, .int .i64 a0_1, .int .i64 a0_2, .int .i64 a0_3, .int .i64 a0_4, .int .i64 a0_5, .int .i64 a0_6, .bool a0_7] 73 (0, 0)) z5_1) : gb200 ≠ gb201)); have NB201_200 := Aside0.mk ((by rw [hg]; exact Nat.ne_of_gt (blk_lt (g := gb200) (o := .cells #[.string a0_0, .int .i64 a0_1, .int .i64 a0_2, .int .i64 a0_3, .int .i64 a0_4, .int .i64 a0_5, .int .i64 a0_6, .bool a0_7] 73 (0, 0)) z5_1) : gb201 ≠ gb200)); replace BK200 := Aside0.mk (blk_below (g := gb200) (o := .cells #[.string a0_0, .int .i64 a0_1, .int .i64 a0_2, .int .i64 a0_3, .int .i64 a0_4, .int .i64 a0_5, .int .i64 a0_6, .bool a0_7] 73 (0, 0)) z5_1 hb); clear hb hbox hg; have hnb24 := NB200_201.out; have hnc24 := NB201_200.out; obtain ⟨hcz25_0, hcz25_1, hcz25_2, hcz25_3, hcz25_4, hcz25_5, hcz25_6, hcz25_7, hfz25_0, hfz25_1, hfz25_2, hfz25_3, hfz25_4, hfz25_5, hfz25_6, hfz25_7⟩ := bc8 BK200.out; obtain ⟨hcz26_0, hcz26_1, hcz26_2, hcz26_3, hcz26_4, hcz26_5, hcz26_6, hcz26_7, hfz26_0, hfz26_1, hfz26_2, hfz26_3, hfz26_4, hfz26_5, hfz26_6, hfz26_7⟩ := bc8 BK201.out) | ((with_reducible refine gate_callee (f := 80) rfl ?_); refine goesL_ (some 14) rfl rfl Try.func80 z5_10 rfl #[.agg #[.int .i64 a0_1, .int .i64 a0_2], .agg #[.int .i64 a1_1, .int .i64 a1_2]] rfl z5_6 ?_; (with_reducible refine (laws_eqDot.calls a0_1 a0_2 a1_1 a1_2 true _ A4.out).mono ?_); rintro e w27 ⟨rfl, hb⟩; refine ⟨_, rfl, ?_⟩; replace BK200 := Aside0.mk (blk_below (g := gb200) (o := .cells #[.string a0_0, .int .i64 a0_1, .int .i64 a0_2, .int .i64 a0_3, .int .i64 a0_4, .int .i64 a0_5, .int .i64 a0_6, .bool a0_7] 73 (0, 0)) z5_1 hb); replace BK201 := Aside0.mk (blk_below (g := gb201) (o := .cells #[.string a1_0, .int .i64 a1_1, .int .i64 a1_2, .int .i64 a1_3, .int .i64 a1_4, .int .i64 a1_5, .int .i64 a1_6, .bool a1_7] 73 (0, 0)) z5_5 hb); replace HB := Aside0.mk (below_step z5_3 hb); obtain ⟨hcz28_0, hcz28_1, hcz28_2, hcz28_3, hcz28_4, hcz28_5, hcz28_6, hcz28_7, hfz28_0, hfz28_1, hfz28_2, hfz28_3, hfz28_4, hfz28_5, hfz28_6, hfz28_7⟩ := bc8 BK200.out; obtain ⟨hcz29_0, hcz29_1, hcz29_2, hcz29_3, hcz29_4, hcz29_5, hcz29_6, hcz29_7, hfz29_0, hfz29_1, hfz29_2, hfz29_3, hfz29_4, hfz29_5, hfz29_6, hfz29_7⟩ := bc8 BK201.out) | ((with_reducible refine gate_callee (f := 80) rfl ?_); refine goesL_ (some 25) rfl rfl Try.func80 z5_10 rfl #[.agg #[.int .i64 a0_4, .int .i64 a0_5], .agg #[.int .i64 a1_4, .int .i64 a1_5]] rfl z5_6 ?_; (with_reducible refine (laws_eqDot.calls a0_4 a0_5 a1_4 a1_5 true _ A7.out).mono ?_); rintro e w30 ⟨rfl, hb⟩; refine ⟨_, rfl, ?_⟩; replace BK200 := Aside0.mk (blk_below (g := gb200) (o := .cells #[.string a0_0, .int .i64 a0_1, .int .i64 a0_2, .int .i64 a0_3, .int .i64 a0_4, .int .i64 a0_5, .int .i64 a0_6, .bool a0_7] 73 (0, 0)) z5_1 hb); replace BK201 := Aside0.mk (blk_below (g := gb201) (o := .cells #[.string a1_0, .int .i64 a1_1, .int .i64 a1_2, .int .i64 a1_3, .int .i64 a1_4, .int .i64 a1_5, .int .i64 a1_6, .bool a1_7] 73 (0, 0)) z5_5 hb); replace HB := Aside0.mk (below_step z5_3 hb); obtain ⟨hcz31_0, hcz31_1, hcz31_2, hcz31_3, hcz31_4, hcz31_5, hcz31_6, hcz31_7, hfz31_0, hfz31_1, hfz31_2, hfz31_3, hfz31_4, hfz31_5, hfz31_6, hfz31_7⟩ := bc8 BK200.out; obtain ⟨hcz32_0, hcz32_1, hcz32_2, hcz32_3, hcz32_4, hcz32_5, hcz32_6, hcz32_7, hfz32_0, hfz32_1, hfz32_2, hfz32_3, hfz32_4, hfz32_5, hfz32_6, hfz32_7⟩ := bc8 BK201.out))
       go_ret
       exact ⟨z5_7, z5_3⟩
     ·
      rw [if_neg c9] at H
      have c9b0 : (a0_6 == a1_6) = false := beq_eq_false_iff_ne.mpr c9
      have c9b1 : (a0_6 != a1_6) = true := bne_iff_ne.mpr c9
      obtain rfl := Option.some.inj H
      go_enter Try.func101, Try.ntmps101
      go_wp2_with (first | ((with_reducible refine gate_dst (N := 2) rfl ?_); refine box_event ?hg (N := 2) ?hd (cs := #[.string a0_0, .int .i64 a0_1, .int .i64 a0_2, .int .i64 a0_3, .int .i64 a0_4, .int .i64 a0_5, .int .i64 a0_6, .bool a0_7]) (t := 73) ?hr ?_; (case hd => rfl); (case hg => rfl); (case hr => first | (go_simp; done) | (go_simp; rfl)); intro gb200 hg w33 hbox hb; have BK200 := Aside0.mk (hbox); have GW200 := gw_ w z5_0 hg; have GE200 := gw_ w z5_0 hg; replace HB := Aside0.mk (below_step z5_0 hb); clear hb hbox hg) | ((with_reducible refine gate_dst (N := 3) rfl ?_); refine box_event ?hg (N := 3) ?hd (cs := #[.string a1_0, .int .i64 a1_1, .int .i64 a1_2, .int .i64 a1_3, .int .i64 a1_4, .int .i64 a1_5, .int .i64 a1_6, .bool a1_7]) (t := 73) ?hr ?_; (case hd => rfl); (case hg => rfl); (case hr => first | (go_simp; done) | (go_simp; rfl)); intro gb201 hg w34 hbox hb; have BK201 := Aside0.mk (hbox); have GW201 := gw_ w z5_2 hg; have GE201 := gw_ w z5_2 hg; replace HB := Aside0.mk (below_step z5_2 hb); have NB200_201 := Aside0.mk ((by rw [hg]; exact Nat.ne_of_lt (blk_lt (g := gb200) (o := .cells #[.string a0_0, .int .i64 a0_1, .int .i64 a0_2, .int .i64 a0_3, .int .i64 a0_4, .int .i64 a0_5, .int .i64 a0_6, .bool a0_7] 73 (0, 0)) z5_1) : gb200 ≠ gb201)); have NB201_200 := Aside0.mk ((by rw [hg]; exact Nat.ne_of_gt (blk_lt (g := gb200) (o := .cells #[.string a0_0, .int .i64 a0_1, .int .i64 a0_2, .int .i64 a0_3, .int .i64 a0_4, .int .i64 a0_5, .int .i64 a0_6, .bool a0_7] 73 (0, 0)) z5_1) : gb201 ≠ gb200)); replace BK200 := Aside0.mk (blk_below (g := gb200) (o := .cells #[.string a0_0, .int .i64 a0_1, .int .i64 a0_2, .int .i64 a0_3, .int .i64 a0_4, .int .i64 a0_5, .int .i64 a0_6, .bool a0_7] 73 (0, 0)) z5_1 hb); clear hb hbox hg; have hnb35 := NB200_201.out; have hnc35 := NB201_200.out; obtain ⟨hcz36_0, hcz36_1, hcz36_2, hcz36_3, hcz36_4, hcz36_5, hcz36_6, hcz36_7, hfz36_0, hfz36_1, hfz36_2, hfz36_3, hfz36_4, hfz36_5, hfz36_6, hfz36_7⟩ := bc8 BK200.out; obtain ⟨hcz37_0, hcz37_1, hcz37_2, hcz37_3, hcz37_4, hcz37_5, hcz37_6, hcz37_7, hfz37_0, hfz37_1, hfz37_2, hfz37_3, hfz37_4, hfz37_5, hfz37_6, hfz37_7⟩ := bc8 BK201.out) | ((with_reducible refine gate_callee (f := 80) rfl ?_); refine goesL_ (some 14) rfl rfl Try.func80 z5_10 rfl #[.agg #[.int .i64 a0_1, .int .i64 a0_2], .agg #[.int .i64 a1_1, .int .i64 a1_2]] rfl z5_6 ?_; (with_reducible refine (laws_eqDot.calls a0_1 a0_2 a1_1 a1_2 true _ A4.out).mono ?_); rintro e w38 ⟨rfl, hb⟩; refine ⟨_, rfl, ?_⟩; replace BK200 := Aside0.mk (blk_below (g := gb200) (o := .cells #[.string a0_0, .int .i64 a0_1, .int .i64 a0_2, .int .i64 a0_3, .int .i64 a0_4, .int .i64 a0_5, .int .i64 a0_6, .bool a0_7] 73 (0, 0)) z5_1 hb); replace BK201 := Aside0.mk (blk_below (g := gb201) (o := .cells #[.string a1_0, .int .i64 a1_1, .int .i64 a1_2, .int .i64 a1_3, .int .i64 a1_4, .int .i64 a1_5, .int .i64 a1_6, .bool a1_7] 73 (0, 0)) z5_5 hb); replace HB := Aside0.mk (below_step z5_3 hb); obtain ⟨hcz39_0, hcz39_1, hcz39_2, hcz39_3, hcz39_4, hcz39_5, hcz39_6, hcz39_7, hfz39_0, hfz39_1, hfz39_2, hfz39_3, hfz39_4, hfz39_5, hfz39_6, hfz39_7⟩ := bc8 BK200.out; obtain ⟨hcz40_0, hcz40_1, hcz40_2, hcz40_3, hcz40_4, hcz40_5, hcz40_6, hcz40_7, hfz40_0, hfz40_1, hfz40_2, hfz40_3, hfz40_4, hfz40_5, hfz40_6, hfz40_7⟩ := bc8 BK201.out) | ((with_reducible refine gate_callee (f := 80) rfl ?_); refine goesL_ (some 25) rfl rfl Try.func80 z5_10 rfl #[.agg #[.int .i64 a0_4, .int .i64 a0_5], .agg #[.int .i64 a1_4, .int .i64 a1_5]] rfl z5_6 ?_; (with_reducible refine (laws_eqDot.calls a0_4 a0_5 a1_4 a1_5 true _ A7.out).mono ?_); rintro e w41 ⟨rfl, hb⟩; refine ⟨_, rfl, ?_⟩; replace BK200 := Aside0.mk (blk_below (g := gb200) (o := .cells #[.string a0_0, .int .i64 a0_1, .int .i64 a0_2, .int .i64 a0_3, .int .i64 a0_4, .int .i64 a0_5, .int .i64 a0_6, .bool a0_7] 73 (0, 0)) z5_1 hb); replace BK201 := Aside0.mk (blk_below (g := gb201) (o := .cells #[.string a1_0, .int .i64 a1_1, .int .i64 a1_2, .int .i64 a1_3, .int .i64 a1_4, .int .i64 a1_5, .int .i64 a1_6, .bool a1_7] 73 (0, 0)) z5_5 hb); replace HB := Aside0.mk (below_step z5_3 hb); obtain ⟨hcz42_0, hcz42_1, hcz42_2, hcz42_3, hcz42_4, hcz42_5, hcz42_6, hcz42_7, hfz42_0, hfz42_1, hfz42_2, hfz42_3, hfz42_4, hfz42_5, hfz42_6, hfz42_7⟩ := bc8 BK200.out; obtain ⟨hcz43_0, hcz43_1, hcz43_2, hcz43_3, hcz43_4, hcz43_5, hcz43_6, hcz43_7, hfz43_0, hfz43_1, hfz43_2, hfz43_3, hfz43_4, hfz43_5, hfz43_6, hfz43_7⟩ := bc8 BK201.out))
      go_ret
      exact ⟨z5_7, z5_3⟩
    ·
     replace c8 := Bool.eq_false_iff.mpr c8
     subst c8
     rw [if_neg (show ¬ (false = true) by decide)] at H
     obtain rfl := Option.some.inj H
     go_enter Try.func101, Try.ntmps101
     go_wp2_with (first | ((with_reducible refine gate_dst (N := 2) rfl ?_); refine box_event ?hg (N := 2) ?hd (cs := #[.string a0_0, .int .i64 a0_1, .int .i64 a0_2, .int .i64 a0_3, .int .i64 a0_4, .int .i64 a0_5, .int .i64 a0_6, .bool a0_7]) (t := 73) ?hr ?_; (case hd => rfl); (case hg => rfl); (case hr => first | (go_simp; done) | (go_simp; rfl)); intro gb200 hg w44 hbox hb; have BK200 := Aside0.mk (hbox); have GW200 := gw_ w z5_0 hg; have GE200 := gw_ w z5_0 hg; replace HB := Aside0.mk (below_step z5_0 hb); clear hb hbox hg) | ((with_reducible refine gate_dst (N := 3) rfl ?_); refine box_event ?hg (N := 3) ?hd (cs := #[.string a1_0, .int .i64 a1_1, .int .i64 a1_2, .int .i64 a1_3, .int .i64 a1_4, .int .i64 a1_5, .int .i64 a1_6, .bool a1_7]) (t := 73) ?hr ?_; (case hd => rfl); (case hg => rfl); (case hr => first | (go_simp; done) | (go_simp; rfl)); intro gb201 hg w45 hbox hb; have BK201 := Aside0.mk (hbox); have GW201 := gw_ w z5_2 hg; have GE201 := gw_ w z5_2 hg; replace HB := Aside0.mk (below_step z5_2 hb); have NB200_201 := Aside0.mk ((by rw [hg]; exact Nat.ne_of_lt (blk_lt (g := gb200) (o := .cells #[.string a0_0, .int .i64 a0_1, .int .i64 a0_2, .int .i64 a0_3, .int .i64 a0_4, .int .i64 a0_5, .int .i64 a0_6, .bool a0_7] 73 (0, 0)) z5_1) : gb200 ≠ gb201)); have NB201_200 := Aside0.mk ((by rw [hg]; exact Nat.ne_of_gt (blk_lt (g := gb200) (o := .cells #[.string a0_0, .int .i64 a0_1, .int .i64 a0_2, .int .i64 a0_3, .int .i64 a0_4, .int .i64 a0_5, .int .i64 a0_6, .bool a0_7] 73 (0, 0)) z5_1) : gb201 ≠ gb200)); replace BK200 := Aside0.mk (blk_below (g := gb200) (o := .cells #[.string a0_0, .int .i64 a0_1, .int .i64 a0_2, .int .i64 a0_3, .int .i64 a0_4, .int .i64 a0_5, .int .i64 a0_6, .bool a0_7] 73 (0, 0)) z5_1 hb); clear hb hbox hg; have hnb46 := NB200_201.out; have hnc46 := NB201_200.out; obtain ⟨hcz47_0, hcz47_1, hcz47_2, hcz47_3, hcz47_4, hcz47_5, hcz47_6, hcz47_7, hfz47_0, hfz47_1, hfz47_2, hfz47_3, hfz47_4, hfz47_5, hfz47_6, hfz47_7⟩ := bc8 BK200.out; obtain ⟨hcz48_0, hcz48_1, hcz48_2, hcz48_3, hcz48_4, hcz48_5, hcz48_6, hcz48_7, hfz48_0, hfz48_1, hfz48_2, hfz48_3, hfz48_4, hfz48_5, hfz48_6, hfz48_7⟩ := bc8 BK201.out) | ((with_reducible refine gate_callee (f := 80) rfl ?_); refine goesL_ (some 14) rfl rfl Try.func80 z5_10 rfl #[.agg #[.int .i64 a0_1, .int .i64 a0_2], .agg #[.int .i64 a1_1, .int .i64 a1_2]] rfl z5_6 ?_; (with_reducible refine (laws_eqDot.calls a0_1 a0_2 a1_1 a1_2 true _ A4.out).mono ?_); rintro e w49 ⟨rfl, hb⟩; refine ⟨_, rfl, ?_⟩; replace BK200 := Aside0.mk (blk_below (g := gb200) (o := .cells #[.string a0_0, .int .i64 a0_1, .int .i64 a0_2, .int .i64 a0_3, .int .i64 a0_4, .int .i64 a0_5, .int .i64 a0_6, .bool a0_7] 73 (0, 0)) z5_1 hb); replace BK201 := Aside0.mk (blk_below (g := gb201) (o := .cells #[.string a1_0, .int .i64 a1_1, .int .i64 a1_2, .int .i64 a1_3, .int .i64 a1_4, .int .i64 a1_5, .int .i64 a1_6, .bool a1_7] 73 (0, 0)) z5_5 hb); replace HB := Aside0.mk (below_step z5_3 hb); obtain ⟨hcz50_0, hcz50_1, hcz50_2, hcz50_3, hcz50_4, hcz50_5, hcz50_6, hcz50_7, hfz50_0, hfz50_1, hfz50_2, hfz50_3, hfz50_4, hfz50_5, hfz50_6, hfz50_7⟩ := bc8 BK200.out; obtain ⟨hcz51_0, hcz51_1, hcz51_2, hcz51_3, hcz51_4, hcz51_5, hcz51_6, hcz51_7, hfz51_0, hfz51_1, hfz51_2, hfz51_3, hfz51_4, hfz51_5, hfz51_6, hfz51_7⟩ := bc8 BK201.out) | ((with_reducible refine gate_callee (f := 80) rfl ?_); refine goesL_ (some 25) rfl rfl Try.func80 z5_10 rfl #[.agg #[.int .i64 a0_4, .int .i64 a0_5], .agg #[.int .i64 a1_4, .int .i64 a1_5]] rfl z5_6 ?_; (with_reducible refine (laws_eqDot.calls a0_4 a0_5 a1_4 a1_5 false _ A7.out).mono ?_); rintro e w52 ⟨rfl, hb⟩; refine ⟨_, rfl, ?_⟩; replace BK200 := Aside0.mk (blk_below (g := gb200) (o := .cells #[.string a0_0, .int .i64 a0_1, .int .i64 a0_2, .int .i64 a0_3, .int .i64 a0_4, .int .i64 a0_5, .int .i64 a0_6, .bool a0_7] 73 (0, 0)) z5_1 hb); replace BK201 := Aside0.mk (blk_below (g := gb201) (o := .cells #[.string a1_0, .int .i64 a1_1, .int .i64 a1_2, .int .i64 a1_3, .int .i64 a1_4, .int .i64 a1_5, .int .i64 a1_6, .bool a1_7] 73 (0, 0)) z5_5 hb); replace HB := Aside0.mk (below_step z5_3 hb)))
     go_ret
     exact ⟨z5_7, z5_3⟩
   ·
    rw [if_neg c6] at H
    have c6b0 : (a0_3 == a1_3) = false := beq_eq_false_iff_ne.mpr c6
    have c6b1 : (a0_3 != a1_3) = true := bne_iff_ne.mpr c6
    obtain rfl := Option.some.inj H
    go_enter Try.func101, Try.ntmps101
    go_wp2_with (first | ((with_reducible refine gate_dst (N := 2) rfl ?_); refine box_event ?hg (N := 2) ?hd (cs := #[.string a0_0, .int .i64 a0_1, .int .i64 a0_2, .int .i64 a0_3, .int .i64 a0_4, .int .i64 a0_5, .int .i64 a0_6, .bool a0_7]) (t := 73) ?hr ?_; (case hd => rfl); (case hg => rfl); (case hr => first | (go_simp; done) | (go_simp; rfl)); intro gb200 hg w53 hbox hb; have BK200 := Aside0.mk (hbox); have GW200 := gw_ w z5_0 hg; have GE200 := gw_ w z5_0 hg; replace HB := Aside0.mk (below_step z5_0 hb); clear hb hbox hg) | ((with_reducible refine gate_dst (N := 3) rfl ?_); refine box_event ?hg (N := 3) ?hd (cs := #[.string a1_0, .int .i64 a1_1, .int .i64 a1_2, .int .i64 a1_3, .int .i64 a1_4, .int .i64 a1_5, .int .i64 a1_6, .bool a1_7]) (t := 73) ?hr ?_; (case hd => rfl); (case hg => rfl); (case hr => first | (go_simp; done) | (go_simp; rfl)); intro gb201 hg w54 hbox hb; have BK201 := Aside0.mk (hbox); have GW201 := gw_ w z5_2 hg; have GE201 := gw_ w z5_2 hg; replace HB := Aside0.mk (below_step z5_2 hb); have NB200_201 := Aside0.mk ((by rw [hg]; exact Nat.ne_of_lt (blk_lt (g := gb200) (o := .cells #[.string a0_0, .int .i64 a0_1, .int .i64 a0_2, .int .i64 a0_3, .int .i64 a0_4, .int .i64 a0_5, .int .i64 a0_6, .bool a0_7] 73 (0, 0)) z5_1) : gb200 ≠ gb201)); have NB201_200 := Aside0.mk ((by rw [hg]; exact Nat.ne_of_gt (blk_lt (g := gb200) (o := .cells #[.string a0_0, .int .i64 a0_1, .int .i64 a0_2, .int .i64 a0_3, .int .i64 a0_4, .int .i64 a0_5, .int .i64 a0_6, .bool a0_7] 73 (0, 0)) z5_1) : gb201 ≠ gb200)); replace BK200 := Aside0.mk (blk_below (g := gb200) (o := .cells #[.string a0_0, .int .i64 a0_1, .int .i64 a0_2, .int .i64 a0_3, .int .i64 a0_4, .int .i64 a0_5, .int .i64 a0_6, .bool a0_7] 73 (0, 0)) z5_1 hb); clear hb hbox hg; have hnb55 := NB200_201.out; have hnc55 := NB201_200.out; obtain ⟨hcz56_0, hcz56_1, hcz56_2, hcz56_3, hcz56_4, hcz56_5, hcz56_6, hcz56_7, hfz56_0, hfz56_1, hfz56_2, hfz56_3, hfz56_4, hfz56_5, hfz56_6, hfz56_7⟩ := bc8 BK200.out; obtain ⟨hcz57_0, hcz57_1, hcz57_2, hcz57_3, hcz57_4, hcz57_5, hcz57_6, hcz57_7, hfz57_0, hfz57_1, hfz57_2, hfz57_3, hfz57_4, hfz57_5, hfz57_6, hfz57_7⟩ := bc8 BK201.out) | ((with_reducible refine gate_callee (f := 80) rfl ?_); refine goesL_ (some 14) rfl rfl Try.func80 z5_10 rfl #[.agg #[.int .i64 a0_1, .int .i64 a0_2], .agg #[.int .i64 a1_1, .int .i64 a1_2]] rfl z5_6 ?_; (with_reducible refine (laws_eqDot.calls a0_1 a0_2 a1_1 a1_2 true _ A4.out).mono ?_); rintro e w58 ⟨rfl, hb⟩; refine ⟨_, rfl, ?_⟩; replace BK200 := Aside0.mk (blk_below (g := gb200) (o := .cells #[.string a0_0, .int .i64 a0_1, .int .i64 a0_2, .int .i64 a0_3, .int .i64 a0_4, .int .i64 a0_5, .int .i64 a0_6, .bool a0_7] 73 (0, 0)) z5_1 hb); replace BK201 := Aside0.mk (blk_below (g := gb201) (o := .cells #[.string a1_0, .int .i64 a1_1, .int .i64 a1_2, .int .i64 a1_3, .int .i64 a1_4, .int .i64 a1_5, .int .i64 a1_6, .bool a1_7] 73 (0, 0)) z5_5 hb); replace HB := Aside0.mk (below_step z5_3 hb); obtain ⟨hcz59_0, hcz59_1, hcz59_2, hcz59_3, hcz59_4, hcz59_5, hcz59_6, hcz59_7, hfz59_0, hfz59_1, hfz59_2, hfz59_3, hfz59_4, hfz59_5, hfz59_6, hfz59_7⟩ := bc8 BK200.out; obtain ⟨hcz60_0, hcz60_1, hcz60_2, hcz60_3, hcz60_4, hcz60_5, hcz60_6, hcz60_7, hfz60_0, hfz60_1, hfz60_2, hfz60_3, hfz60_4, hfz60_5, hfz60_6, hfz60_7⟩ := bc8 BK201.out))
    go_ret
    exact ⟨z5_7, z5_3⟩
  ·
   replace c5 := Bool.eq_false_iff.mpr c5
   subst c5
   rw [if_neg (show ¬ (false = true) by decide)] at H
   obtain rfl := Option.some.inj H
   go_enter Try.func101, Try.ntmps101
   go_wp2_with (first | ((with_reducible refine gate_dst (N := 2) rfl ?_); refine box_event ?hg (N := 2) ?hd (cs := #[.string a0_0, .int .i64 a0_1, .int .i64 a0_2, .int .i64 a0_3, .int .i64 a0_4, .int .i64 a0_5, .int .i64 a0_6, .bool a0_7]) (t := 73) ?hr ?_; (case hd => rfl); (case hg => rfl); (case hr => first | (go_simp; done) | (go_simp; rfl)); intro gb200 hg w61 hbox hb; have BK200 := Aside0.mk (hbox); have GW200 := gw_ w z5_0 hg; have GE200 := gw_ w z5_0 hg; replace HB := Aside0.mk (below_step z5_0 hb); clear hb hbox hg) | ((with_reducible refine gate_dst (N := 3) rfl ?_); refine box_event ?hg (N := 3) ?hd (cs := #[.string a1_0, .int .i64 a1_1, .int .i64 a1_2, .int .i64 a1_3, .int .i64 a1_4, .int .i64 a1_5, .int .i64 a1_6, .bool a1_7]) (t := 73) ?hr ?_; (case hd => rfl); (case hg => rfl); (case hr => first | (go_simp; done) | (go_simp; rfl)); intro gb201 hg w62 hbox hb; have BK201 := Aside0.mk (hbox); have GW201 := gw_ w z5_2 hg; have GE201 := gw_ w z5_2 hg; replace HB := Aside0.mk (below_step z5_2 hb); have NB200_201 := Aside0.mk ((by rw [hg]; exact Nat.ne_of_lt (blk_lt (g := gb200) (o := .cells #[.string a0_0, .int .i64 a0_1, .int .i64 a0_2, .int .i64 a0_3, .int .i64 a0_4, .int .i64 a0_5, .int .i64 a0_6, .bool a0_7] 73 (0, 0)) z5_1) : gb200 ≠ gb201)); have NB201_200 := Aside0.mk ((by rw [hg]; exact Nat.ne_of_gt (blk_lt (g := gb200) (o := .cells #[.string a0_0, .int .i64 a0_1, .int .i64 a0_2, .int .i64 a0_3, .int .i64 a0_4, .int .i64 a0_5, .int .i64 a0_6, .bool a0_7] 73 (0, 0)) z5_1) : gb201 ≠ gb200)); replace BK200 := Aside0.mk (blk_below (g := gb200) (o := .cells #[.string a0_0, .int .i64 a0_1, .int .i64 a0_2, .int .i64 a0_3, .int .i64 a0_4, .int .i64 a0_5, .int .i64 a0_6, .bool a0_7] 73 (0, 0)) z5_1 hb); clear hb hbox hg; have hnb63 := NB200_201.out; have hnc63 := NB201_200.out; obtain ⟨hcz64_0, hcz64_1, hcz64_2, hcz64_3, hcz64_4, hcz64_5, hcz64_6, hcz64_7, hfz64_0, hfz64_1, hfz64_2, hfz64_3, hfz64_4, hfz64_5, hfz64_6, hfz64_7⟩ := bc8 BK200.out; obtain ⟨hcz65_0, hcz65_1, hcz65_2, hcz65_3, hcz65_4, hcz65_5, hcz65_6, hcz65_7, hfz65_0, hfz65_1, hfz65_2, hfz65_3, hfz65_4, hfz65_5, hfz65_6, hfz65_7⟩ := bc8 BK201.out) | ((with_reducible refine gate_callee (f := 80) rfl ?_); refine goesL_ (some 14) rfl rfl Try.func80 z5_10 rfl #[.agg #[.int .i64 a0_1, .int .i64 a0_2], .agg #[.int .i64 a1_1, .int .i64 a1_2]] rfl z5_6 ?_; (with_reducible refine (laws_eqDot.calls a0_1 a0_2 a1_1 a1_2 false _ A4.out).mono ?_); rintro e w66 ⟨rfl, hb⟩; refine ⟨_, rfl, ?_⟩; replace BK200 := Aside0.mk (blk_below (g := gb200) (o := .cells #[.string a0_0, .int .i64 a0_1, .int .i64 a0_2, .int .i64 a0_3, .int .i64 a0_4, .int .i64 a0_5, .int .i64 a0_6, .bool a0_7] 73 (0, 0)) z5_1 hb); replace BK201 := Aside0.mk (blk_below (g := gb201) (o := .cells #[.string a1_0, .int .i64 a1_1, .int .i64 a1_2, .int .i64 a1_3, .int .i64 a1_4, .int .i64 a1_5, .int .i64 a1_6, .bool a1_7] 73 (0, 0)) z5_5 hb); replace HB := Aside0.mk (below_step z5_3 hb)))
   go_ret
   exact ⟨z5_7, z5_3⟩
 ·
  rw [if_neg c3] at H
  have c3b0 : (a0_0.toList == a1_0.toList) = false := beq_eq_false_iff_ne.mpr c3
  have c3b1 : (a0_0.toList != a1_0.toList) = true := bne_iff_ne.mpr c3
  obtain rfl := Option.some.inj H
  go_enter Try.func101, Try.ntmps101
  go_wp2_with (first | ((with_reducible refine gate_dst (N := 2) rfl ?_); refine box_event ?hg (N := 2) ?hd (cs := #[.string a0_0, .int .i64 a0_1, .int .i64 a0_2, .int .i64 a0_3, .int .i64 a0_4, .int .i64 a0_5, .int .i64 a0_6, .bool a0_7]) (t := 73) ?hr ?_; (case hd => rfl); (case hg => rfl); (case hr => first | (go_simp; done) | (go_simp; rfl)); intro gb200 hg w67 hbox hb; have BK200 := Aside0.mk (hbox); have GW200 := gw_ w z5_0 hg; have GE200 := gw_ w z5_0 hg; replace HB := Aside0.mk (below_step z5_0 hb); clear hb hbox hg) | ((with_reducible refine gate_dst (N := 3) rfl ?_); refine box_event ?hg (N := 3) ?hd (cs := #[.string a1_0, .int .i64 a1_1, .int .i64 a1_2, .int .i64 a1_3, .int .i64 a1_4, .int .i64 a1_5, .int .i64 a1_6, .bool a1_7]) (t := 73) ?hr ?_; (case hd => rfl); (case hg => rfl); (case hr => first | (go_simp; done) | (go_simp; rfl)); intro gb201 hg w68 hbox hb; have BK201 := Aside0.mk (hbox); have GW201 := gw_ w z5_2 hg; have GE201 := gw_ w z5_2 hg; replace HB := Aside0.mk (below_step z5_2 hb); have NB200_201 := Aside0.mk ((by rw [hg]; exact Nat.ne_of_lt (blk_lt (g := gb200) (o := .cells #[.string a0_0, .int .i64 a0_1, .int .i64 a0_2, .int .i64 a0_3, .int .i64 a0_4, .int .i64 a0_5, .int .i64 a0_6, .bool a0_7] 73 (0, 0)) z5_1) : gb200 ≠ gb201)); have NB201_200 := Aside0.mk ((by rw [hg]; exact Nat.ne_of_gt (blk_lt (g := gb200) (o := .cells #[.string a0_0, .int .i64 a0_1, .int .i64 a0_2, .int .i64 a0_3, .int .i64 a0_4, .int .i64 a0_5, .int .i64 a0_6, .bool a0_7] 73 (0, 0)) z5_1) : gb201 ≠ gb200)); replace BK200 := Aside0.mk (blk_below (g := gb200) (o := .cells #[.string a0_0, .int .i64 a0_1, .int .i64 a0_2, .int .i64 a0_3, .int .i64 a0_4, .int .i64 a0_5, .int .i64 a0_6, .bool a0_7] 73 (0, 0)) z5_1 hb); clear hb hbox hg; have hnb69 := NB200_201.out; have hnc69 := NB201_200.out; obtain ⟨hcz70_0, hcz70_1, hcz70_2, hcz70_3, hcz70_4, hcz70_5, hcz70_6, hcz70_7, hfz70_0, hfz70_1, hfz70_2, hfz70_3, hfz70_4, hfz70_5, hfz70_6, hfz70_7⟩ := bc8 BK200.out; obtain ⟨hcz71_0, hcz71_1, hcz71_2, hcz71_3, hcz71_4, hcz71_5, hcz71_6, hcz71_7, hfz71_0, hfz71_1, hfz71_2, hfz71_3, hfz71_4, hfz71_5, hfz71_6, hfz71_7⟩ := bc8 BK201.out))
  go_ret
  exact ⟨z5_7, z5_3⟩
end Go.Proofs.Ytbanogkoaplcdaa.QSOk
