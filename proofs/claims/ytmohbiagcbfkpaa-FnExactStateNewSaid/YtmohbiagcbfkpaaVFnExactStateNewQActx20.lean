/- What the functions behind Act compute, and that the program's calls come to just that. Written by a program of this session on the base of the kit's print. No condition. -/
import Derived.Test.YtmohbiagcbfkpaaVFnExactStateNewQActx0
import Derived.Test.YtmohbiagcbfkpaaVFnExactStateNewQActx19
namespace Go.Proofs.Ytmohbiagcbfkpaa.QAct
open Go.RowKit Go.Proofs.YtmohbiagcbfkpaaW.PrintWords Go.Proofs.YtmohbiagcbfkpaaW.PrintLast Go.Proofs.YtmohbiagcbfkpaaW.PrintMore
attribute [local go_sem] max2_int min2_int max_two min_two max_three min_three max_four min_four   -- for this text's walks alone
set_option linter.unusedVariables false
set_option linter.unusedSimpArgs false
theorem z20_10 {P : Prop} (h : P := by first | rfl | (simp; done) | (simp [*]; done)) : P := h
theorem z20_9 {P : Prop} (h : P := by first | rfl | (simp only [List.map_toArray, List.map_cons, List.map_nil]; first | done | rfl)) : P := h
theorem z20_8 {P : Prop} (h : P := by kernel_rfl) : P := h
theorem z20_7 {P : Prop} (h : P := by repeat (first | (with_reducible first | exact HB.out | apply below_alloc | apply pw_below_drewN | apply below_drew1 | refine below_set ?_ GE610.out | refine below_set ?_ GE611.out) | exact HB.out)) : P := h
theorem z20_6 {P : Prop} (h : P := by first | (with_reducible assumption) | assumption) : P := h
theorem z20_5 {P : Prop} (h : P := by first | rfl | (simp [errW_none, errW_some] <;> rfl) | (simp [*, errW_none, errW_some] <;> rfl)) : P := h
theorem z20_4 {P : Prop} (h : P := by intro w'; go_simp; with_reducible rfl) : P := h
theorem z20_3 {P : Prop} (h : P := by (with_reducible repeat (first | refine blk_drewN ?_ _ | refine blk_drew ?_ | refine blk_alloc ?_ _)); exact BK610.out) : P := h
theorem z20_2 {P : Prop} (h : P := by repeat (first | (with_reducible first | exact HB.out | apply below_alloc | apply pw_below_drewN | apply below_drew1 | refine below_set ?_ GE610.out) | exact HB.out)) : P := h
theorem z20_1 {P : Prop} (h : P := by repeat (first | (with_reducible first | exact HB.out | apply below_alloc | apply pw_below_drewN | apply below_drew1) | exact HB.out)) : P := h
theorem z20_0 {P : Prop} (h : P := by simp only [Act.put, List.setIfInBounds_toArray, List.set_cons_zero, List.set_cons_succ, i64_w, i32_w]; rfl) : P := h
def laws_eqLiveS.l0 : Nat → List (S134) → List (S134) → Int → Option (Bool)
  | 0, _, _, _ => none
  | k + 1, x0, x1, x5 => if x5 < (x0.length : Int) then (if 0 ≤ x5 then (if x5 < (x1.length : Int) then ((laws_eqLive.f ((rd_T134 x0 x5).f0) ((rd_T134 x0 x5).f1) ((rd_T134 x0 x5).f2) ((rd_T134 x0 x5).f3) ((rd_T134 x0 x5).f4.f0) ((rd_T134 x0 x5).f4.f1) ((rd_T134 x1 x5).f0) ((rd_T134 x1 x5).f1) ((rd_T134 x1 x5).f2) ((rd_T134 x1 x5).f3) ((rd_T134 x1 x5).f4.f0) ((rd_T134 x1 x5).f4.f1)).bind fun t609 => (if t609 = true then (laws_eqLiveS.l0 k x0 x1 (wrap64 (x5 + 1))) else (some false))) else (none)) else (none)) else (some true)
def laws_eqLiveS.f (k : Nat) (l0 : List (S134)) (l1 : List (S134)) : Option (Bool) := if (l0.length : Int) = (l1.length : Int) then (laws_eqLiveS.l0 k l0 l1 0) else (some false)
def laws_eqLiveS.T6 : Bool × List (List Nat × List Nat) := (true, [([], []), ([], []), ([0, 1], [0, 1]), ([2], [2]), ([], []), ([], []), ([4, 5], [4, 5]), ([6], [6]), ([3, 7], [3, 7]), ([8], [8])])
def laws_eqLiveS.B6 : List Nat := [0, 0, 3, 7, 0, 0, 48, 112, 255, 511]
theorem laws_eqLiveS.tab6 : rtab .any (opsOf Try.f36 6) = laws_eqLiveS.T6 := by kernel_rfl
theorem laws_eqLiveS.bits6 : waitsOk laws_eqLiveS.T6.2 laws_eqLiveS.B6 = true := by kernel_rfl
set_option maxHeartbeats 8000000 in
set_option maxRecDepth 100000 in
theorem laws_eqLiveS.calls (k : Nat) (A0 : Option Addr) (c0 : Nat) (l0 : List (S134)) (A1 : Option Addr) (c1 : Nat) (l1 : List (S134)) (r : Bool) (w : World) (hr0 : Kd.C k134 w A0 l0.length l0) (hc0 : l0.length ≤ c0) (hr1 : Kd.C k134 w A1 l1.length l1) (hc1 : l1.length ≤ c1) (h : laws_eqLiveS.f k l0 l1 = some r) :
  Calls Try.prog 36 #[.slice A0 l0.length c0, .slice A1 l1.length c1] w fun e w' => e = .returned (.bool r) ∧ Below w.heap.size w w' := by
 have hu134 := Try.underlying134
 have HR0 := Aside0.mk hr0
 have HC0 := Aside0.mk hc0
 clear hr0 hc0
 have HR1 := Aside0.mk hr1
 have HC1 := Aside0.mk hc1
 clear hr1 hc1
 have HB := Aside0.mk (Below.refl w.heap.size w)
 have H : (if (l0.length : Int) = (l1.length : Int) then (laws_eqLiveS.l0 k l0 l1 0) else (some false)) = some r := h
 clear h
 by_cases c3 : (l0.length : Int) = (l1.length : Int)
 ·
  rw [if_pos c3] at H
  have c3b0 : ((l0.length : Int) == (l1.length : Int)) = true := beq_iff_eq.mpr c3
  have c3b1 : ((l0.length : Int) != (l1.length : Int)) = false := bne_eq_false_iff_eq.mpr c3
  have c3b2 : (l0.length == l1.length) = true := by first | simpa using c3 | (simp at c3 ⊢; omega)
  clear c3
  have H' := Aside0.mk H
  clear H
  go_enter Try.func36, Try.ntmps36
  go_wp2
  go_loopg [5] k (fun kq v5 w' => ∃ (x5_1 : Int), v5 = .int .i64 x5_1 ∧ Aside0 (laws_eqLiveS.l0 kq l0 l1 x5_1 = some r) ∧ Aside0 (kq ≤ k) ∧ Aside0 (Below w.heap.size w w'))
  case atStart => exact ⟨(0), z20_10, H', ⟨Nat.le_refl _⟩, ⟨z20_1⟩⟩
  case round =>
   clear H'
   try clear c1
   try clear p2
   try clear c3
   try clear c3b0
   try clear c3b1
   try clear c3b2
   obtain ⟨x5_1, rfl, HA, HK1, HB⟩ := hrel
   cases gk with
   | zero => exact absurd HA.out (by simp [laws_eqLiveS.l0])
   | succ k1 =>
    have H := HA.out
    clear HA
    simp only [laws_eqLiveS.l0] at H
    by_cases c4 : x5_1 < (l0.length : Int)
    ·
     rw [if_pos c4] at H
     have c4b0 : decide (x5_1 < (l0.length : Int)) = true := decide_eq_true c4
     clear c4
     by_cases c5 : 0 ≤ x5_1
     ·
      rw [if_pos c5] at H
      have c5b0 : decide (0 ≤ x5_1) = true := decide_eq_true c5
      clear c5
      by_cases c6 : x5_1 < (l1.length : Int)
      ·
       rw [if_pos c6] at H
       have c6b0 : decide (x5_1 < (l1.length : Int)) = true := decide_eq_true c6
       clear c6
       replace H := Option.bind_eq_some_iff.mp H
       obtain ⟨t609, A70, H⟩ := H
       (try dsimp only at H)
       have A7 := Aside0.mk A70
       clear A70
       by_cases c8 : t609 = true
       ·
        subst c8
        rw [if_pos rfl] at H
        have H' := Aside0.mk H
        clear H
        try go_wp2
        have n0_ := Aside0.mk (below_drew1 HB.out)
        clear HB
        have HB := n0_
        clear n0_
        have p607 : 0 ≤ (x5_1 : Int) := of_decide_eq_true z20_6
        have q607 : x5_1 < (l0.length : Int) := of_decide_eq_true z20_6
        obtain ⟨ad607, e607, hx607_0, hx607_1, hx607_2, hx607_3, hx607_4, hx607_5⟩ := at_T134 HR0.out x5_1 p607 q607
        have hw607_5 := hx607_5
        have hw607_4 := hx607_4
        have hw607_3 := hx607_3
        have hw607_2 := hx607_2
        have hw607_1 := hx607_1
        have hw607_0 := hx607_0
        cases e607
        replace hx607_0 := (HB.out.cell (World.block_lt_of_cell? w _ hx607_0)).trans hx607_0
        replace hx607_1 := (HB.out.cell (World.block_lt_of_cell? w _ hx607_1)).trans hx607_1
        replace hx607_2 := (HB.out.cell (World.block_lt_of_cell? w _ hx607_2)).trans hx607_2
        replace hx607_3 := (HB.out.cell (World.block_lt_of_cell? w _ hx607_3)).trans hx607_3
        replace hx607_4 := (HB.out.cell (World.block_lt_of_cell? w _ hx607_4)).trans hx607_4
        replace hx607_5 := (HB.out.cell (World.block_lt_of_cell? w _ hx607_5)).trans hx607_5
        replace p607 := eq_true p607
        replace q607 := eq_true q607
        have p608 : 0 ≤ (x5_1 : Int) := of_decide_eq_true z20_6
        have q608 : x5_1 < (l1.length : Int) := of_decide_eq_true z20_6
        obtain ⟨ad608, e608, hx608_0, hx608_1, hx608_2, hx608_3, hx608_4, hx608_5⟩ := at_T134 HR1.out x5_1 p608 q608
        have hw608_5 := hx608_5
        have hw608_4 := hx608_4
        have hw608_3 := hx608_3
        have hw608_2 := hx608_2
        have hw608_1 := hx608_1
        have hw608_0 := hx608_0
        cases e608
        replace hx608_0 := (HB.out.cell (World.block_lt_of_cell? w _ hx608_0)).trans hx608_0
        replace hx608_1 := (HB.out.cell (World.block_lt_of_cell? w _ hx608_1)).trans hx608_1
        replace hx608_2 := (HB.out.cell (World.block_lt_of_cell? w _ hx608_2)).trans hx608_2
        replace hx608_3 := (HB.out.cell (World.block_lt_of_cell? w _ hx608_3)).trans hx608_3
        replace hx608_4 := (HB.out.cell (World.block_lt_of_cell? w _ hx608_4)).trans hx608_4
        replace hx608_5 := (HB.out.cell (World.block_lt_of_cell? w _ hx608_5)).trans hx608_5
        replace p608 := eq_true p608
        replace q608 := eq_true q608
        refine start_ (n := 10) (S := fun w' => w'.cell? (ad607.add ((x5_1).toNat * 6)) = some (.bool ((rd_T134 l0 x5_1).f0)) ∧ w'.cell? ⟨(ad607.add ((x5_1).toNat * 6)).block, (ad607.add ((x5_1).toNat * 6)).off + 1, none⟩ = some (.string ((rd_T134 l0 x5_1).f1)) ∧ w'.cell? ⟨(ad607.add ((x5_1).toNat * 6)).block, (ad607.add ((x5_1).toNat * 6)).off + 2, none⟩ = some (.string ((rd_T134 l0 x5_1).f2)) ∧ w'.cell? ⟨(ad607.add ((x5_1).toNat * 6)).block, (ad607.add ((x5_1).toNat * 6)).off + 3, none⟩ = some (.int .i64 ((rd_T134 l0 x5_1).f3)) ∧ w'.cell? ⟨(ad607.add ((x5_1).toNat * 6)).block, (ad607.add ((x5_1).toNat * 6)).off + 4, none⟩ = some (.int .i64 ((rd_T134 l0 x5_1).f4.f0)) ∧ w'.cell? ⟨(ad607.add ((x5_1).toNat * 6)).block, (ad607.add ((x5_1).toNat * 6)).off + 5, none⟩ = some (.int .i64 ((rd_T134 l0 x5_1).f4.f1)) ∧ w'.cell? (ad608.add ((x5_1).toNat * 6)) = some (.bool ((rd_T134 l1 x5_1).f0)) ∧ w'.cell? ⟨(ad608.add ((x5_1).toNat * 6)).block, (ad608.add ((x5_1).toNat * 6)).off + 1, none⟩ = some (.string ((rd_T134 l1 x5_1).f1)) ∧ w'.cell? ⟨(ad608.add ((x5_1).toNat * 6)).block, (ad608.add ((x5_1).toNat * 6)).off + 2, none⟩ = some (.string ((rd_T134 l1 x5_1).f2)) ∧ w'.cell? ⟨(ad608.add ((x5_1).toNat * 6)).block, (ad608.add ((x5_1).toNat * 6)).off + 3, none⟩ = some (.int .i64 ((rd_T134 l1 x5_1).f3)) ∧ w'.cell? ⟨(ad608.add ((x5_1).toNat * 6)).block, (ad608.add ((x5_1).toNat * 6)).off + 4, none⟩ = some (.int .i64 ((rd_T134 l1 x5_1).f4.f0)) ∧ w'.cell? ⟨(ad608.add ((x5_1).toNat * 6)).block, (ad608.add ((x5_1).toNat * 6)).off + 5, none⟩ = some (.int .i64 ((rd_T134 l1 x5_1).f4.f1))) (ds := []) #[false, false, false, false, false, false, false, false, false, false] z20_8 rfl rfl ⟨((HB.out.cell (World.block_lt_of_cell? w _ hw607_0)).trans hw607_0), ((HB.out.cell (World.block_lt_of_cell? w _ hw607_1)).trans hw607_1), ((HB.out.cell (World.block_lt_of_cell? w _ hw607_2)).trans hw607_2), ((HB.out.cell (World.block_lt_of_cell? w _ hw607_3)).trans hw607_3), ((HB.out.cell (World.block_lt_of_cell? w _ hw607_4)).trans hw607_4), ((HB.out.cell (World.block_lt_of_cell? w _ hw607_5)).trans hw607_5), ((HB.out.cell (World.block_lt_of_cell? w _ hw608_0)).trans hw608_0), ((HB.out.cell (World.block_lt_of_cell? w _ hw608_1)).trans hw608_1), ((HB.out.cell (World.block_lt_of_cell? w _ hw608_2)).trans hw608_2), ((HB.out.cell (World.block_lt_of_cell? w _ hw608_3)).trans hw608_3), ((HB.out.cell (World.block_lt_of_cell? w _ hw608_4)).trans hw608_4), ((HB.out.cell (World.block_lt_of_cell? w _ hw608_5)).trans hw608_5)⟩ (fun hHeld => ?_); refine with_tabW laws_eqLiveS.tab6 laws_eqLiveS.bits6 (fun HT_ HW_ => ?_)
        generalize wr.drew = w9 at HB hx607_0 hx607_1 hx607_2 hx607_3 hx607_4 hx607_5 hx608_0 hx608_1 hx608_2 hx608_3 hx608_4 hx608_5 hHeld ⊢
        refine pure_ (i := 0) (N := some 17) (v := ?_) (a' := ?_) #[true, false, false, false, false, false, false, false, false, false] rfl rfl (any_of HT_.out z20_8) (fun _ _ _ h => h) (Or.inl ⟨by rfl, ?_⟩) ?_ ?_
        rotate_left
        ·
         exact z20_4
        rotate_left
        ·
         exact z20_0
        refine pure_ (i := 1) (N := some 18) (v := ?_) (a' := ?_) #[true, true, false, false, false, false, false, false, false, false] rfl rfl (any_of HT_.out z20_8) (fun _ _ _ h => h) (Or.inl ⟨by rfl, ?_⟩) ?_ ?_
        rotate_left
        ·
         exact z20_4
        rotate_left
        ·
         exact z20_0
        refine pure_ (i := 2) (N := some 19) (v := ?_) (a' := ?_) #[true, true, true, false, false, false, false, false, false, false] rfl rfl (any_of HT_.out z20_8) (fun _ _ _ h => h) (Or.inl ⟨by rfl, ?_⟩) ?_ ?_
        rotate_left
        ·
         exact z20_4
        rotate_left
        ·
         exact z20_0
        refine pure_ (i := 4) (N := some 21) (v := ?_) (a' := ?_) #[true, true, true, false, true, false, false, false, false, false] rfl rfl (any_of HT_.out z20_8) (fun _ _ _ h => h) (Or.inl ⟨by rfl, ?_⟩) ?_ ?_
        rotate_left
        ·
         exact z20_4
        rotate_left
        ·
         exact z20_0
        refine pure_ (i := 5) (N := some 22) (v := ?_) (a' := ?_) #[true, true, true, false, true, true, false, false, false, false] rfl rfl (any_of HT_.out z20_8) (fun _ _ _ h => h) (Or.inl ⟨by rfl, ?_⟩) ?_ ?_
        rotate_left
        ·
         exact z20_4
        rotate_left
        ·
         exact z20_0
        refine pure_ (i := 6) (N := some 23) (v := ?_) (a' := ?_) #[true, true, true, false, true, true, true, false, false, false] rfl rfl (any_of HT_.out z20_8) (fun _ _ _ h => h) (Or.inl ⟨by rfl, ?_⟩) ?_ ?_
        rotate_left
        ·
         exact z20_4
        rotate_left
        ·
         exact z20_0
        refine take_ (i := 3) (N := some 20) (v := ?_) (a' := ?_) #[true, true, true, true, true, true, true, false, false, false] rfl rfl (take_ofW HT_.out HW_.out z20_8) (fun _ _ _ h => h) (Or.inl ⟨by rfl, ?_⟩) hHeld ?_ ?_
        rotate_left
        ·
         rintro w' ⟨s0, s1, s2, s3, s4, s5, s6, s7, s8, s9, s10, s11⟩
         go_simp
         with_reducible rfl
        rotate_left
        ·
         exact z20_0
        refine take_ (i := 7) (N := some 24) (v := ?_) (a' := ?_) #[true, true, true, true, true, true, true, true, false, false] rfl rfl (take_ofW HT_.out HW_.out z20_8) (fun _ _ _ h => h) (Or.inl ⟨by rfl, ?_⟩) hHeld ?_ ?_
        rotate_left
        ·
         rintro w' ⟨s0, s1, s2, s3, s4, s5, s6, s7, s8, s9, s10, s11⟩
         go_simp
         with_reducible rfl
        rotate_left
        ·
         exact z20_0
        refine one_ (i := 8) (N := some 25) #[true, true, true, true, true, true, true, true, true, false] rfl rfl (one_of HT_.out z20_8) (by decide) (fun K hK => ?_)
        refine goes_ Try.func116 z20_8 rfl #[.agg #[.bool ((rd_T134 l0 x5_1).f0), .string ((rd_T134 l0 x5_1).f1), .string ((rd_T134 l0 x5_1).f2), .int .i64 ((rd_T134 l0 x5_1).f3), .int .i64 ((rd_T134 l0 x5_1).f4.f0), .int .i64 ((rd_T134 l0 x5_1).f4.f1)], .agg #[.bool ((rd_T134 l1 x5_1).f0), .string ((rd_T134 l1 x5_1).f1), .string ((rd_T134 l1 x5_1).f2), .int .i64 ((rd_T134 l1 x5_1).f3), .int .i64 ((rd_T134 l1 x5_1).f4.f0), .int .i64 ((rd_T134 l1 x5_1).f4.f1)]] (by rfl) rfl rfl z20_9 ?_
        with_reducible refine (laws_eqLive.calls ((rd_T134 l0 x5_1).f0) ((rd_T134 l0 x5_1).f1) ((rd_T134 l0 x5_1).f2) ((rd_T134 l0 x5_1).f3) ((rd_T134 l0 x5_1).f4.f0) ((rd_T134 l0 x5_1).f4.f1) ((rd_T134 l1 x5_1).f0) ((rd_T134 l1 x5_1).f1) ((rd_T134 l1 x5_1).f2) ((rd_T134 l1 x5_1).f3) ((rd_T134 l1 x5_1).f4.f0) ((rd_T134 l1 x5_1).f4.f1) true _ A7.out).mono ?_
        rintro e w10 ⟨rfl, hb⟩
        refine ⟨_, rfl, ?_⟩
        have n0_ := Aside0.mk (below_step z20_1 hb)
        clear HB
        have HB := n0_
        clear n0_
        (try clear hb)
        (try clear hb2)
        (try clear hk)
        (try clear hi)
        refine hK.out _ _ ⟨((HB.out.cell (World.block_lt_of_cell? w _ hw607_0)).trans hw607_0), ((HB.out.cell (World.block_lt_of_cell? w _ hw607_1)).trans hw607_1), ((HB.out.cell (World.block_lt_of_cell? w _ hw607_2)).trans hw607_2), ((HB.out.cell (World.block_lt_of_cell? w _ hw607_3)).trans hw607_3), ((HB.out.cell (World.block_lt_of_cell? w _ hw607_4)).trans hw607_4), ((HB.out.cell (World.block_lt_of_cell? w _ hw607_5)).trans hw607_5), ((HB.out.cell (World.block_lt_of_cell? w _ hw608_0)).trans hw608_0), ((HB.out.cell (World.block_lt_of_cell? w _ hw608_1)).trans hw608_1), ((HB.out.cell (World.block_lt_of_cell? w _ hw608_2)).trans hw608_2), ((HB.out.cell (World.block_lt_of_cell? w _ hw608_3)).trans hw608_3), ((HB.out.cell (World.block_lt_of_cell? w _ hw608_4)).trans hw608_4), ((HB.out.cell (World.block_lt_of_cell? w _ hw608_5)).trans hw608_5)⟩ (fun hHeld => ?_)
        clear hK K
        refine norm_ (a' := ?_) ?_ ?_
        rotate_left
        ·
         show Act.put _ (some 25) _ = _
         simp only [Act.put, List.setIfInBounds_toArray, List.set_cons_zero, List.set_cons_succ, i64_w, i32_w]
         rfl
        refine pure_ (i := 9) (N := some 26) (v := ?_) (a' := ?_) #[true, true, true, true, true, true, true, true, true, true] rfl rfl (any_of HT_.out z20_8) (fun _ _ _ h => h) (Or.inl ⟨by rfl, ?_⟩) ?_ ?_
        rotate_left
        ·
         exact z20_4
        rotate_left
        ·
         exact z20_0
        refine done_ (done_of HT_.out z20_8) ?_
        try go_wp2
        go_roundg k1
        case measure => have := HK1.out; omega
        case rel => exact ⟨(wrap64 (x5_1 + 1)), z20_10, H', ⟨by have := HK1.out; omega⟩, ⟨z20_1⟩⟩
       ·
        replace c8 := Bool.eq_false_iff.mpr c8
        subst c8
        rw [if_neg (show ¬ (false = true) by decide)] at H
        obtain rfl := Option.some.inj H
        try go_wp2
        have n0_ := Aside0.mk (below_drew1 HB.out)
        clear HB
        have HB := n0_
        clear n0_
        have p607 : 0 ≤ (x5_1 : Int) := of_decide_eq_true z20_6
        have q607 : x5_1 < (l0.length : Int) := of_decide_eq_true z20_6
        obtain ⟨ad607, e607, hx607_0, hx607_1, hx607_2, hx607_3, hx607_4, hx607_5⟩ := at_T134 HR0.out x5_1 p607 q607
        have hw607_5 := hx607_5
        have hw607_4 := hx607_4
        have hw607_3 := hx607_3
        have hw607_2 := hx607_2
        have hw607_1 := hx607_1
        have hw607_0 := hx607_0
        cases e607
        replace hx607_0 := (HB.out.cell (World.block_lt_of_cell? w _ hx607_0)).trans hx607_0
        replace hx607_1 := (HB.out.cell (World.block_lt_of_cell? w _ hx607_1)).trans hx607_1
        replace hx607_2 := (HB.out.cell (World.block_lt_of_cell? w _ hx607_2)).trans hx607_2
        replace hx607_3 := (HB.out.cell (World.block_lt_of_cell? w _ hx607_3)).trans hx607_3
        replace hx607_4 := (HB.out.cell (World.block_lt_of_cell? w _ hx607_4)).trans hx607_4
        replace hx607_5 := (HB.out.cell (World.block_lt_of_cell? w _ hx607_5)).trans hx607_5
        replace p607 := eq_true p607
        replace q607 := eq_true q607
        have p608 : 0 ≤ (x5_1 : Int) := of_decide_eq_true z20_6
        have q608 : x5_1 < (l1.length : Int) := of_decide_eq_true z20_6
        obtain ⟨ad608, e608, hx608_0, hx608_1, hx608_2, hx608_3, hx608_4, hx608_5⟩ := at_T134 HR1.out x5_1 p608 q608
        have hw608_5 := hx608_5
        have hw608_4 := hx608_4
        have hw608_3 := hx608_3
        have hw608_2 := hx608_2
        have hw608_1 := hx608_1
        have hw608_0 := hx608_0
        cases e608
        replace hx608_0 := (HB.out.cell (World.block_lt_of_cell? w _ hx608_0)).trans hx608_0
        replace hx608_1 := (HB.out.cell (World.block_lt_of_cell? w _ hx608_1)).trans hx608_1
        replace hx608_2 := (HB.out.cell (World.block_lt_of_cell? w _ hx608_2)).trans hx608_2
        replace hx608_3 := (HB.out.cell (World.block_lt_of_cell? w _ hx608_3)).trans hx608_3
        replace hx608_4 := (HB.out.cell (World.block_lt_of_cell? w _ hx608_4)).trans hx608_4
        replace hx608_5 := (HB.out.cell (World.block_lt_of_cell? w _ hx608_5)).trans hx608_5
        replace p608 := eq_true p608
        replace q608 := eq_true q608
        refine start_ (n := 10) (S := fun w' => w'.cell? (ad607.add ((x5_1).toNat * 6)) = some (.bool ((rd_T134 l0 x5_1).f0)) ∧ w'.cell? ⟨(ad607.add ((x5_1).toNat * 6)).block, (ad607.add ((x5_1).toNat * 6)).off + 1, none⟩ = some (.string ((rd_T134 l0 x5_1).f1)) ∧ w'.cell? ⟨(ad607.add ((x5_1).toNat * 6)).block, (ad607.add ((x5_1).toNat * 6)).off + 2, none⟩ = some (.string ((rd_T134 l0 x5_1).f2)) ∧ w'.cell? ⟨(ad607.add ((x5_1).toNat * 6)).block, (ad607.add ((x5_1).toNat * 6)).off + 3, none⟩ = some (.int .i64 ((rd_T134 l0 x5_1).f3)) ∧ w'.cell? ⟨(ad607.add ((x5_1).toNat * 6)).block, (ad607.add ((x5_1).toNat * 6)).off + 4, none⟩ = some (.int .i64 ((rd_T134 l0 x5_1).f4.f0)) ∧ w'.cell? ⟨(ad607.add ((x5_1).toNat * 6)).block, (ad607.add ((x5_1).toNat * 6)).off + 5, none⟩ = some (.int .i64 ((rd_T134 l0 x5_1).f4.f1)) ∧ w'.cell? (ad608.add ((x5_1).toNat * 6)) = some (.bool ((rd_T134 l1 x5_1).f0)) ∧ w'.cell? ⟨(ad608.add ((x5_1).toNat * 6)).block, (ad608.add ((x5_1).toNat * 6)).off + 1, none⟩ = some (.string ((rd_T134 l1 x5_1).f1)) ∧ w'.cell? ⟨(ad608.add ((x5_1).toNat * 6)).block, (ad608.add ((x5_1).toNat * 6)).off + 2, none⟩ = some (.string ((rd_T134 l1 x5_1).f2)) ∧ w'.cell? ⟨(ad608.add ((x5_1).toNat * 6)).block, (ad608.add ((x5_1).toNat * 6)).off + 3, none⟩ = some (.int .i64 ((rd_T134 l1 x5_1).f3)) ∧ w'.cell? ⟨(ad608.add ((x5_1).toNat * 6)).block, (ad608.add ((x5_1).toNat * 6)).off + 4, none⟩ = some (.int .i64 ((rd_T134 l1 x5_1).f4.f0)) ∧ w'.cell? ⟨(ad608.add ((x5_1).toNat * 6)).block, (ad608.add ((x5_1).toNat * 6)).off + 5, none⟩ = some (.int .i64 ((rd_T134 l1 x5_1).f4.f1))) (ds := []) #[false, false, false, false, false, false, false, false, false, false] z20_8 rfl rfl ⟨((HB.out.cell (World.block_lt_of_cell? w _ hw607_0)).trans hw607_0), ((HB.out.cell (World.block_lt_of_cell? w _ hw607_1)).trans hw607_1), ((HB.out.cell (World.block_lt_of_cell? w _ hw607_2)).trans hw607_2), ((HB.out.cell (World.block_lt_of_cell? w _ hw607_3)).trans hw607_3), ((HB.out.cell (World.block_lt_of_cell? w _ hw607_4)).trans hw607_4), ((HB.out.cell (World.block_lt_of_cell? w _ hw607_5)).trans hw607_5), ((HB.out.cell (World.block_lt_of_cell? w _ hw608_0)).trans hw608_0), ((HB.out.cell (World.block_lt_of_cell? w _ hw608_1)).trans hw608_1), ((HB.out.cell (World.block_lt_of_cell? w _ hw608_2)).trans hw608_2), ((HB.out.cell (World.block_lt_of_cell? w _ hw608_3)).trans hw608_3), ((HB.out.cell (World.block_lt_of_cell? w _ hw608_4)).trans hw608_4), ((HB.out.cell (World.block_lt_of_cell? w _ hw608_5)).trans hw608_5)⟩ (fun hHeld => ?_); refine with_tabW laws_eqLiveS.tab6 laws_eqLiveS.bits6 (fun HT_ HW_ => ?_)
        generalize wr.drew = w11 at HB hx607_0 hx607_1 hx607_2 hx607_3 hx607_4 hx607_5 hx608_0 hx608_1 hx608_2 hx608_3 hx608_4 hx608_5 hHeld ⊢
        refine pure_ (i := 0) (N := some 17) (v := ?_) (a' := ?_) #[true, false, false, false, false, false, false, false, false, false] rfl rfl (any_of HT_.out z20_8) (fun _ _ _ h => h) (Or.inl ⟨by rfl, ?_⟩) ?_ ?_
        rotate_left
        ·
         exact z20_4
        rotate_left
        ·
         exact z20_0
        refine pure_ (i := 1) (N := some 18) (v := ?_) (a' := ?_) #[true, true, false, false, false, false, false, false, false, false] rfl rfl (any_of HT_.out z20_8) (fun _ _ _ h => h) (Or.inl ⟨by rfl, ?_⟩) ?_ ?_
        rotate_left
        ·
         exact z20_4
        rotate_left
        ·
         exact z20_0
        refine pure_ (i := 2) (N := some 19) (v := ?_) (a' := ?_) #[true, true, true, false, false, false, false, false, false, false] rfl rfl (any_of HT_.out z20_8) (fun _ _ _ h => h) (Or.inl ⟨by rfl, ?_⟩) ?_ ?_
        rotate_left
        ·
         exact z20_4
        rotate_left
        ·
         exact z20_0
        refine pure_ (i := 4) (N := some 21) (v := ?_) (a' := ?_) #[true, true, true, false, true, false, false, false, false, false] rfl rfl (any_of HT_.out z20_8) (fun _ _ _ h => h) (Or.inl ⟨by rfl, ?_⟩) ?_ ?_
        rotate_left
        ·
         exact z20_4
        rotate_left
        ·
         exact z20_0
        refine pure_ (i := 5) (N := some 22) (v := ?_) (a' := ?_) #[true, true, true, false, true, true, false, false, false, false] rfl rfl (any_of HT_.out z20_8) (fun _ _ _ h => h) (Or.inl ⟨by rfl, ?_⟩) ?_ ?_
        rotate_left
        ·
         exact z20_4
        rotate_left
        ·
         exact z20_0
        refine pure_ (i := 6) (N := some 23) (v := ?_) (a' := ?_) #[true, true, true, false, true, true, true, false, false, false] rfl rfl (any_of HT_.out z20_8) (fun _ _ _ h => h) (Or.inl ⟨by rfl, ?_⟩) ?_ ?_
        rotate_left
        ·
         exact z20_4
        rotate_left
        ·
         exact z20_0
        refine take_ (i := 3) (N := some 20) (v := ?_) (a' := ?_) #[true, true, true, true, true, true, true, false, false, false] rfl rfl (take_ofW HT_.out HW_.out z20_8) (fun _ _ _ h => h) (Or.inl ⟨by rfl, ?_⟩) hHeld ?_ ?_
        rotate_left
        ·
         rintro w' ⟨s0, s1, s2, s3, s4, s5, s6, s7, s8, s9, s10, s11⟩
         go_simp
         with_reducible rfl
        rotate_left
        ·
         exact z20_0
        refine take_ (i := 7) (N := some 24) (v := ?_) (a' := ?_) #[true, true, true, true, true, true, true, true, false, false] rfl rfl (take_ofW HT_.out HW_.out z20_8) (fun _ _ _ h => h) (Or.inl ⟨by rfl, ?_⟩) hHeld ?_ ?_
        rotate_left
        ·
         rintro w' ⟨s0, s1, s2, s3, s4, s5, s6, s7, s8, s9, s10, s11⟩
         go_simp
         with_reducible rfl
        rotate_left
        ·
         exact z20_0
        refine one_ (i := 8) (N := some 25) #[true, true, true, true, true, true, true, true, true, false] rfl rfl (one_of HT_.out z20_8) (by decide) (fun K hK => ?_)
        refine goes_ Try.func116 z20_8 rfl #[.agg #[.bool ((rd_T134 l0 x5_1).f0), .string ((rd_T134 l0 x5_1).f1), .string ((rd_T134 l0 x5_1).f2), .int .i64 ((rd_T134 l0 x5_1).f3), .int .i64 ((rd_T134 l0 x5_1).f4.f0), .int .i64 ((rd_T134 l0 x5_1).f4.f1)], .agg #[.bool ((rd_T134 l1 x5_1).f0), .string ((rd_T134 l1 x5_1).f1), .string ((rd_T134 l1 x5_1).f2), .int .i64 ((rd_T134 l1 x5_1).f3), .int .i64 ((rd_T134 l1 x5_1).f4.f0), .int .i64 ((rd_T134 l1 x5_1).f4.f1)]] (by rfl) rfl rfl z20_9 ?_
        with_reducible refine (laws_eqLive.calls ((rd_T134 l0 x5_1).f0) ((rd_T134 l0 x5_1).f1) ((rd_T134 l0 x5_1).f2) ((rd_T134 l0 x5_1).f3) ((rd_T134 l0 x5_1).f4.f0) ((rd_T134 l0 x5_1).f4.f1) ((rd_T134 l1 x5_1).f0) ((rd_T134 l1 x5_1).f1) ((rd_T134 l1 x5_1).f2) ((rd_T134 l1 x5_1).f3) ((rd_T134 l1 x5_1).f4.f0) ((rd_T134 l1 x5_1).f4.f1) false _ A7.out).mono ?_
        rintro e w12 ⟨rfl, hb⟩
        refine ⟨_, rfl, ?_⟩
        have n0_ := Aside0.mk (below_step z20_1 hb)
        clear HB
        have HB := n0_
        clear n0_
        (try clear hb)
        (try clear hb2)
        (try clear hk)
        (try clear hi)
        refine hK.out _ _ ⟨((HB.out.cell (World.block_lt_of_cell? w _ hw607_0)).trans hw607_0), ((HB.out.cell (World.block_lt_of_cell? w _ hw607_1)).trans hw607_1), ((HB.out.cell (World.block_lt_of_cell? w _ hw607_2)).trans hw607_2), ((HB.out.cell (World.block_lt_of_cell? w _ hw607_3)).trans hw607_3), ((HB.out.cell (World.block_lt_of_cell? w _ hw607_4)).trans hw607_4), ((HB.out.cell (World.block_lt_of_cell? w _ hw607_5)).trans hw607_5), ((HB.out.cell (World.block_lt_of_cell? w _ hw608_0)).trans hw608_0), ((HB.out.cell (World.block_lt_of_cell? w _ hw608_1)).trans hw608_1), ((HB.out.cell (World.block_lt_of_cell? w _ hw608_2)).trans hw608_2), ((HB.out.cell (World.block_lt_of_cell? w _ hw608_3)).trans hw608_3), ((HB.out.cell (World.block_lt_of_cell? w _ hw608_4)).trans hw608_4), ((HB.out.cell (World.block_lt_of_cell? w _ hw608_5)).trans hw608_5)⟩ (fun hHeld => ?_)
        clear hK K
        refine norm_ (a' := ?_) ?_ ?_
        rotate_left
        ·
         show Act.put _ (some 25) _ = _
         simp only [Act.put, List.setIfInBounds_toArray, List.set_cons_zero, List.set_cons_succ, i64_w, i32_w]
         rfl
        refine pure_ (i := 9) (N := some 26) (v := ?_) (a' := ?_) #[true, true, true, true, true, true, true, true, true, true] rfl rfl (any_of HT_.out z20_8) (fun _ _ _ h => h) (Or.inl ⟨by rfl, ?_⟩) ?_ ?_
        rotate_left
        ·
         exact z20_4
        rotate_left
        ·
         exact z20_0
        refine done_ (done_of HT_.out z20_8) ?_
        try go_wp2
        go_ret
        exact ⟨z20_5, z20_1⟩
      ·
       rw [if_neg c6] at H
       exact absurd H (by simp)
     ·
      rw [if_neg c5] at H
      exact absurd H (by simp)
    ·
     rw [if_neg c4] at H
     have c4b0 : decide (x5_1 < (l0.length : Int)) = false := decide_eq_false c4
     clear c4
     obtain rfl := Option.some.inj H
     go_wp2
     go_ret
     exact ⟨z20_5, z20_1⟩
 ·
  rw [if_neg c3] at H
  have c3b0 : ((l0.length : Int) == (l1.length : Int)) = false := beq_eq_false_iff_ne.mpr c3
  have c3b1 : ((l0.length : Int) != (l1.length : Int)) = true := bne_iff_ne.mpr c3
  have c3b2 : (l0.length == l1.length) = false := by first | simpa using c3 | (simp at c3 ⊢; omega)
  obtain rfl := Option.some.inj H
  go_enter Try.func36, Try.ntmps36
  go_wp2
  go_ret
  exact ⟨z20_5, z20_1⟩
def laws_eqTally.f (a0_0 : ByteArray) (a0_1 : Int) (a0_2 : Int) (a1_0 : ByteArray) (a1_1 : Int) (a1_2 : Int) : Option (Bool) := if a0_0.toList = a1_0.toList then (if a0_1 = a1_1 then (if a0_2 = a1_2 then (some true) else (some false)) else (some false)) else (some false)
set_option maxHeartbeats 8000000 in
set_option maxRecDepth 100000 in
theorem laws_eqTally.calls (a0_0 : ByteArray) (a0_1 : Int) (a0_2 : Int) (a1_0 : ByteArray) (a1_1 : Int) (a1_2 : Int) (r : Bool) (w : World) (h : laws_eqTally.f a0_0 a0_1 a0_2 a1_0 a1_1 a1_2 = some r) :
  Calls Try.prog 156 #[.agg #[.string a0_0, .int .i64 a0_1, .int .i64 a0_2], .agg #[.string a1_0, .int .i64 a1_1, .int .i64 a1_2]] w fun e w' => e = .returned (.bool r) ∧ Below w.heap.size w w' := by
 have hu127 := Try.underlying127
 have HB := Aside0.mk (Below.refl w.heap.size w)
 have H : (if a0_0.toList = a1_0.toList then (if a0_1 = a1_1 then (if a0_2 = a1_2 then (some true) else (some false)) else (some false)) else (some false)) = some r := h
 clear h
 by_cases c3 : a0_0.toList = a1_0.toList
 ·
  rw [if_pos c3] at H
  have c3b0 : (a0_0.toList == a1_0.toList) = true := beq_iff_eq.mpr c3
  have c3b1 : (a0_0.toList != a1_0.toList) = false := bne_eq_false_iff_eq.mpr c3
  clear c3
  by_cases c4 : a0_1 = a1_1
  ·
   rw [if_pos c4] at H
   have c4b0 : (a0_1 == a1_1) = true := beq_iff_eq.mpr c4
   have c4b1 : (a0_1 != a1_1) = false := bne_eq_false_iff_eq.mpr c4
   clear c4
   by_cases c5 : a0_2 = a1_2
   ·
    rw [if_pos c5] at H
    have c5b0 : (a0_2 == a1_2) = true := beq_iff_eq.mpr c5
    have c5b1 : (a0_2 != a1_2) = false := bne_eq_false_iff_eq.mpr c5
    clear c5
    obtain rfl := Option.some.inj H
    go_enter Try.func156, Try.ntmps156
    go_wp2_with (first | ((with_reducible refine gate_dst (N := 2) rfl ?_); refine box_event ?hg (N := 2) ?hd (cs := #[.string a0_0, .int .i64 a0_1, .int .i64 a0_2]) (t := 127) ?hr ?_; (case hd => rfl); (case hg => rfl); (case hr => first | (go_simp; done) | (go_simp; rfl)); intro gb610 hg w6 hbox hb; have n0_ := Aside0.mk (below_step z20_1 hb); have n1_ := Aside0.mk (hbox); have n2_ := Aside0.mk ((by rw [hg]; exact (below_size z20_1) : w.heap.size ≤ gb610)); have n3_ := Aside0.mk ((by rw [hg]; exact (below_size z20_1) : w.heap.size ≤ gb610)); clear HB; have HB := n0_; have BK610 := n1_; have GW610 := n2_; have GE610 := n3_; clear n0_ n1_ n2_ n3_; clear hb hbox hg) | ((with_reducible refine gate_dst (N := 3) rfl ?_); refine box_event ?hg (N := 3) ?hd (cs := #[.string a1_0, .int .i64 a1_1, .int .i64 a1_2]) (t := 127) ?hr ?_; (case hd => rfl); (case hg => rfl); (case hr => first | (go_simp; done) | (go_simp; rfl)); intro gb611 hg w7 hbox hb; have n0_ := Aside0.mk (blk_below (g := gb610) (o := .cells #[.string a0_0, .int .i64 a0_1, .int .i64 a0_2] 127 (0, 0)) z20_3 hb); have n1_ := Aside0.mk (below_step z20_2 hb); have n2_ := Aside0.mk (hbox); have n3_ := Aside0.mk ((by rw [hg]; exact (below_size z20_2) : w.heap.size ≤ gb611)); have n4_ := Aside0.mk ((by rw [hg]; exact (below_size z20_2) : w.heap.size ≤ gb611)); have n5_ := Aside0.mk ((by rw [hg]; exact Nat.ne_of_lt (blk_lt (g := gb610) (o := .cells #[.string a0_0, .int .i64 a0_1, .int .i64 a0_2] 127 (0, 0)) z20_3) : gb610 ≠ gb611)); have n6_ := Aside0.mk ((by rw [hg]; exact Nat.ne_of_gt (blk_lt (g := gb610) (o := .cells #[.string a0_0, .int .i64 a0_1, .int .i64 a0_2] 127 (0, 0)) z20_3) : gb611 ≠ gb610)); clear BK610; clear HB; have BK610 := n0_; have HB := n1_; have BK611 := n2_; have GW611 := n3_; have GE611 := n4_; have NB610_611 := n5_; have NB611_610 := n6_; clear n0_ n1_ n2_ n3_ n4_ n5_ n6_; clear hb hbox hg; have hnb8 := NB610_611.out; have hnc8 := NB611_610.out; have hcz9_0 : w7.cell? ⟨gb610, 0, none⟩ = some (.string a0_0) := (blk_cell BK610.out 0).trans rfl; have hcz9_1 : w7.cell? ⟨gb610, 1, none⟩ = some (.int .i64 a0_1) := (blk_cell BK610.out 1).trans rfl; have hcz9_2 : w7.cell? ⟨gb610, 2, none⟩ = some (.int .i64 a0_2) := (blk_cell BK610.out 2).trans rfl; have hfz9_0 := blk_frozen BK610.out 0; have hfz9_1 := blk_frozen BK610.out 1; have hfz9_2 := blk_frozen BK610.out 2; have hcz10_0 : w7.cell? ⟨gb611, 0, none⟩ = some (.string a1_0) := (blk_cell BK611.out 0).trans rfl; have hcz10_1 : w7.cell? ⟨gb611, 1, none⟩ = some (.int .i64 a1_1) := (blk_cell BK611.out 1).trans rfl; have hcz10_2 : w7.cell? ⟨gb611, 2, none⟩ = some (.int .i64 a1_2) := (blk_cell BK611.out 2).trans rfl; have hfz10_0 := blk_frozen BK611.out 0; have hfz10_1 := blk_frozen BK611.out 1; have hfz10_2 := blk_frozen BK611.out 2))
    go_ret
    exact ⟨z20_5, z20_7⟩
   ·
    rw [if_neg c5] at H
    have c5b0 : (a0_2 == a1_2) = false := beq_eq_false_iff_ne.mpr c5
    have c5b1 : (a0_2 != a1_2) = true := bne_iff_ne.mpr c5
    obtain rfl := Option.some.inj H
    go_enter Try.func156, Try.ntmps156
    go_wp2_with (first | ((with_reducible refine gate_dst (N := 2) rfl ?_); refine box_event ?hg (N := 2) ?hd (cs := #[.string a0_0, .int .i64 a0_1, .int .i64 a0_2]) (t := 127) ?hr ?_; (case hd => rfl); (case hg => rfl); (case hr => first | (go_simp; done) | (go_simp; rfl)); intro gb610 hg w11 hbox hb; have n0_ := Aside0.mk (below_step z20_1 hb); have n1_ := Aside0.mk (hbox); have n2_ := Aside0.mk ((by rw [hg]; exact (below_size z20_1) : w.heap.size ≤ gb610)); have n3_ := Aside0.mk ((by rw [hg]; exact (below_size z20_1) : w.heap.size ≤ gb610)); clear HB; have HB := n0_; have BK610 := n1_; have GW610 := n2_; have GE610 := n3_; clear n0_ n1_ n2_ n3_; clear hb hbox hg) | ((with_reducible refine gate_dst (N := 3) rfl ?_); refine box_event ?hg (N := 3) ?hd (cs := #[.string a1_0, .int .i64 a1_1, .int .i64 a1_2]) (t := 127) ?hr ?_; (case hd => rfl); (case hg => rfl); (case hr => first | (go_simp; done) | (go_simp; rfl)); intro gb611 hg w12 hbox hb; have n0_ := Aside0.mk (blk_below (g := gb610) (o := .cells #[.string a0_0, .int .i64 a0_1, .int .i64 a0_2] 127 (0, 0)) z20_3 hb); have n1_ := Aside0.mk (below_step z20_2 hb); have n2_ := Aside0.mk (hbox); have n3_ := Aside0.mk ((by rw [hg]; exact (below_size z20_2) : w.heap.size ≤ gb611)); have n4_ := Aside0.mk ((by rw [hg]; exact (below_size z20_2) : w.heap.size ≤ gb611)); have n5_ := Aside0.mk ((by rw [hg]; exact Nat.ne_of_lt (blk_lt (g := gb610) (o := .cells #[.string a0_0, .int .i64 a0_1, .int .i64 a0_2] 127 (0, 0)) z20_3) : gb610 ≠ gb611)); have n6_ := Aside0.mk ((by rw [hg]; exact Nat.ne_of_gt (blk_lt (g := gb610) (o := .cells #[.string a0_0, .int .i64 a0_1, .int .i64 a0_2] 127 (0, 0)) z20_3) : gb611 ≠ gb610)); clear BK610; clear HB; have BK610 := n0_; have HB := n1_; have BK611 := n2_; have GW611 := n3_; have GE611 := n4_; have NB610_611 := n5_; have NB611_610 := n6_; clear n0_ n1_ n2_ n3_ n4_ n5_ n6_; clear hb hbox hg; have hnb13 := NB610_611.out; have hnc13 := NB611_610.out; have hcz14_0 : w12.cell? ⟨gb610, 0, none⟩ = some (.string a0_0) := (blk_cell BK610.out 0).trans rfl; have hcz14_1 : w12.cell? ⟨gb610, 1, none⟩ = some (.int .i64 a0_1) := (blk_cell BK610.out 1).trans rfl; have hcz14_2 : w12.cell? ⟨gb610, 2, none⟩ = some (.int .i64 a0_2) := (blk_cell BK610.out 2).trans rfl; have hfz14_0 := blk_frozen BK610.out 0; have hfz14_1 := blk_frozen BK610.out 1; have hfz14_2 := blk_frozen BK610.out 2; have hcz15_0 : w12.cell? ⟨gb611, 0, none⟩ = some (.string a1_0) := (blk_cell BK611.out 0).trans rfl; have hcz15_1 : w12.cell? ⟨gb611, 1, none⟩ = some (.int .i64 a1_1) := (blk_cell BK611.out 1).trans rfl; have hcz15_2 : w12.cell? ⟨gb611, 2, none⟩ = some (.int .i64 a1_2) := (blk_cell BK611.out 2).trans rfl; have hfz15_0 := blk_frozen BK611.out 0; have hfz15_1 := blk_frozen BK611.out 1; have hfz15_2 := blk_frozen BK611.out 2))
    go_ret
    exact ⟨z20_5, z20_7⟩
  ·
   rw [if_neg c4] at H
   have c4b0 : (a0_1 == a1_1) = false := beq_eq_false_iff_ne.mpr c4
   have c4b1 : (a0_1 != a1_1) = true := bne_iff_ne.mpr c4
   obtain rfl := Option.some.inj H
   go_enter Try.func156, Try.ntmps156
   go_wp2_with (first | ((with_reducible refine gate_dst (N := 2) rfl ?_); refine box_event ?hg (N := 2) ?hd (cs := #[.string a0_0, .int .i64 a0_1, .int .i64 a0_2]) (t := 127) ?hr ?_; (case hd => rfl); (case hg => rfl); (case hr => first | (go_simp; done) | (go_simp; rfl)); intro gb610 hg w16 hbox hb; have n0_ := Aside0.mk (below_step z20_1 hb); have n1_ := Aside0.mk (hbox); have n2_ := Aside0.mk ((by rw [hg]; exact (below_size z20_1) : w.heap.size ≤ gb610)); have n3_ := Aside0.mk ((by rw [hg]; exact (below_size z20_1) : w.heap.size ≤ gb610)); clear HB; have HB := n0_; have BK610 := n1_; have GW610 := n2_; have GE610 := n3_; clear n0_ n1_ n2_ n3_; clear hb hbox hg) | ((with_reducible refine gate_dst (N := 3) rfl ?_); refine box_event ?hg (N := 3) ?hd (cs := #[.string a1_0, .int .i64 a1_1, .int .i64 a1_2]) (t := 127) ?hr ?_; (case hd => rfl); (case hg => rfl); (case hr => first | (go_simp; done) | (go_simp; rfl)); intro gb611 hg w17 hbox hb; have n0_ := Aside0.mk (blk_below (g := gb610) (o := .cells #[.string a0_0, .int .i64 a0_1, .int .i64 a0_2] 127 (0, 0)) z20_3 hb); have n1_ := Aside0.mk (below_step z20_2 hb); have n2_ := Aside0.mk (hbox); have n3_ := Aside0.mk ((by rw [hg]; exact (below_size z20_2) : w.heap.size ≤ gb611)); have n4_ := Aside0.mk ((by rw [hg]; exact (below_size z20_2) : w.heap.size ≤ gb611)); have n5_ := Aside0.mk ((by rw [hg]; exact Nat.ne_of_lt (blk_lt (g := gb610) (o := .cells #[.string a0_0, .int .i64 a0_1, .int .i64 a0_2] 127 (0, 0)) z20_3) : gb610 ≠ gb611)); have n6_ := Aside0.mk ((by rw [hg]; exact Nat.ne_of_gt (blk_lt (g := gb610) (o := .cells #[.string a0_0, .int .i64 a0_1, .int .i64 a0_2] 127 (0, 0)) z20_3) : gb611 ≠ gb610)); clear BK610; clear HB; have BK610 := n0_; have HB := n1_; have BK611 := n2_; have GW611 := n3_; have GE611 := n4_; have NB610_611 := n5_; have NB611_610 := n6_; clear n0_ n1_ n2_ n3_ n4_ n5_ n6_; clear hb hbox hg; have hnb18 := NB610_611.out; have hnc18 := NB611_610.out; have hcz19_0 : w17.cell? ⟨gb610, 0, none⟩ = some (.string a0_0) := (blk_cell BK610.out 0).trans rfl; have hcz19_1 : w17.cell? ⟨gb610, 1, none⟩ = some (.int .i64 a0_1) := (blk_cell BK610.out 1).trans rfl; have hcz19_2 : w17.cell? ⟨gb610, 2, none⟩ = some (.int .i64 a0_2) := (blk_cell BK610.out 2).trans rfl; have hfz19_0 := blk_frozen BK610.out 0; have hfz19_1 := blk_frozen BK610.out 1; have hfz19_2 := blk_frozen BK610.out 2; have hcz20_0 : w17.cell? ⟨gb611, 0, none⟩ = some (.string a1_0) := (blk_cell BK611.out 0).trans rfl; have hcz20_1 : w17.cell? ⟨gb611, 1, none⟩ = some (.int .i64 a1_1) := (blk_cell BK611.out 1).trans rfl; have hcz20_2 : w17.cell? ⟨gb611, 2, none⟩ = some (.int .i64 a1_2) := (blk_cell BK611.out 2).trans rfl; have hfz20_0 := blk_frozen BK611.out 0; have hfz20_1 := blk_frozen BK611.out 1; have hfz20_2 := blk_frozen BK611.out 2))
   go_ret
   exact ⟨z20_5, z20_7⟩
 ·
  rw [if_neg c3] at H
  have c3b0 : (a0_0.toList == a1_0.toList) = false := beq_eq_false_iff_ne.mpr c3
  have c3b1 : (a0_0.toList != a1_0.toList) = true := bne_iff_ne.mpr c3
  obtain rfl := Option.some.inj H
  go_enter Try.func156, Try.ntmps156
  go_wp2_with (first | ((with_reducible refine gate_dst (N := 2) rfl ?_); refine box_event ?hg (N := 2) ?hd (cs := #[.string a0_0, .int .i64 a0_1, .int .i64 a0_2]) (t := 127) ?hr ?_; (case hd => rfl); (case hg => rfl); (case hr => first | (go_simp; done) | (go_simp; rfl)); intro gb610 hg w21 hbox hb; have n0_ := Aside0.mk (below_step z20_1 hb); have n1_ := Aside0.mk (hbox); have n2_ := Aside0.mk ((by rw [hg]; exact (below_size z20_1) : w.heap.size ≤ gb610)); have n3_ := Aside0.mk ((by rw [hg]; exact (below_size z20_1) : w.heap.size ≤ gb610)); clear HB; have HB := n0_; have BK610 := n1_; have GW610 := n2_; have GE610 := n3_; clear n0_ n1_ n2_ n3_; clear hb hbox hg) | ((with_reducible refine gate_dst (N := 3) rfl ?_); refine box_event ?hg (N := 3) ?hd (cs := #[.string a1_0, .int .i64 a1_1, .int .i64 a1_2]) (t := 127) ?hr ?_; (case hd => rfl); (case hg => rfl); (case hr => first | (go_simp; done) | (go_simp; rfl)); intro gb611 hg w22 hbox hb; have n0_ := Aside0.mk (blk_below (g := gb610) (o := .cells #[.string a0_0, .int .i64 a0_1, .int .i64 a0_2] 127 (0, 0)) z20_3 hb); have n1_ := Aside0.mk (below_step z20_2 hb); have n2_ := Aside0.mk (hbox); have n3_ := Aside0.mk ((by rw [hg]; exact (below_size z20_2) : w.heap.size ≤ gb611)); have n4_ := Aside0.mk ((by rw [hg]; exact (below_size z20_2) : w.heap.size ≤ gb611)); have n5_ := Aside0.mk ((by rw [hg]; exact Nat.ne_of_lt (blk_lt (g := gb610) (o := .cells #[.string a0_0, .int .i64 a0_1, .int .i64 a0_2] 127 (0, 0)) z20_3) : gb610 ≠ gb611)); have n6_ := Aside0.mk ((by rw [hg]; exact Nat.ne_of_gt (blk_lt (g := gb610) (o := .cells #[.string a0_0, .int .i64 a0_1, .int .i64 a0_2] 127 (0, 0)) z20_3) : gb611 ≠ gb610)); clear BK610; clear HB; have BK610 := n0_; have HB := n1_; have BK611 := n2_; have GW611 := n3_; have GE611 := n4_; have NB610_611 := n5_; have NB611_610 := n6_; clear n0_ n1_ n2_ n3_ n4_ n5_ n6_; clear hb hbox hg; have hnb23 := NB610_611.out; have hnc23 := NB611_610.out; have hcz24_0 : w22.cell? ⟨gb610, 0, none⟩ = some (.string a0_0) := (blk_cell BK610.out 0).trans rfl; have hcz24_1 : w22.cell? ⟨gb610, 1, none⟩ = some (.int .i64 a0_1) := (blk_cell BK610.out 1).trans rfl; have hcz24_2 : w22.cell? ⟨gb610, 2, none⟩ = some (.int .i64 a0_2) := (blk_cell BK610.out 2).trans rfl; have hfz24_0 := blk_frozen BK610.out 0; have hfz24_1 := blk_frozen BK610.out 1; have hfz24_2 := blk_frozen BK610.out 2; have hcz25_0 : w22.cell? ⟨gb611, 0, none⟩ = some (.string a1_0) := (blk_cell BK611.out 0).trans rfl; have hcz25_1 : w22.cell? ⟨gb611, 1, none⟩ = some (.int .i64 a1_1) := (blk_cell BK611.out 1).trans rfl; have hcz25_2 : w22.cell? ⟨gb611, 2, none⟩ = some (.int .i64 a1_2) := (blk_cell BK611.out 2).trans rfl; have hfz25_0 := blk_frozen BK611.out 0; have hfz25_1 := blk_frozen BK611.out 1; have hfz25_2 := blk_frozen BK611.out 2))
  go_ret
  exact ⟨z20_5, z20_7⟩
def laws_eqTallyS.l0 : Nat → List (S127) → List (S127) → Int → Option (Bool)
  | 0, _, _, _ => none
  | k + 1, x0, x1, x5 => if x5 < (x0.length : Int) then (if 0 ≤ x5 then (if x5 < (x1.length : Int) then ((laws_eqTally.f ((rd_T127 x0 x5).f0) ((rd_T127 x0 x5).f1) ((rd_T127 x0 x5).f2) ((rd_T127 x1 x5).f0) ((rd_T127 x1 x5).f1) ((rd_T127 x1 x5).f2)).bind fun t614 => (if t614 = true then (laws_eqTallyS.l0 k x0 x1 (wrap64 (x5 + 1))) else (some false))) else (none)) else (none)) else (some true)
def laws_eqTallyS.f (k : Nat) (l0 : List (S127)) (l1 : List (S127)) : Option (Bool) := if (l0.length : Int) = (l1.length : Int) then (laws_eqTallyS.l0 k l0 l1 0) else (some false)
def laws_eqTallyS.T6 : Bool × List (List Nat × List Nat) := (true, [([], []), ([], []), ([0, 1], [0, 1]), ([2], [2]), ([], []), ([], []), ([4, 5], [4, 5]), ([6], [6]), ([3, 7], [3, 7]), ([8], [8])])
def laws_eqTallyS.B6 : List Nat := [0, 0, 3, 7, 0, 0, 48, 112, 255, 511]
theorem laws_eqTallyS.tab6 : rtab .any (opsOf Try.f114 6) = laws_eqTallyS.T6 := by kernel_rfl
theorem laws_eqTallyS.bits6 : waitsOk laws_eqTallyS.T6.2 laws_eqTallyS.B6 = true := by kernel_rfl
set_option maxHeartbeats 8000000 in
set_option maxRecDepth 100000 in
theorem laws_eqTallyS.calls (k : Nat) (A0 : Option Addr) (c0 : Nat) (l0 : List (S127)) (A1 : Option Addr) (c1 : Nat) (l1 : List (S127)) (r : Bool) (w : World) (hr0 : Kd.C k127 w A0 l0.length l0) (hc0 : l0.length ≤ c0) (hr1 : Kd.C k127 w A1 l1.length l1) (hc1 : l1.length ≤ c1) (h : laws_eqTallyS.f k l0 l1 = some r) :
  Calls Try.prog 114 #[.slice A0 l0.length c0, .slice A1 l1.length c1] w fun e w' => e = .returned (.bool r) ∧ Below w.heap.size w w' := by
 have hu127 := Try.underlying127
 have HR0 := Aside0.mk hr0
 have HC0 := Aside0.mk hc0
 clear hr0 hc0
 have HR1 := Aside0.mk hr1
 have HC1 := Aside0.mk hc1
 clear hr1 hc1
 have HB := Aside0.mk (Below.refl w.heap.size w)
 have H : (if (l0.length : Int) = (l1.length : Int) then (laws_eqTallyS.l0 k l0 l1 0) else (some false)) = some r := h
 clear h
 by_cases c3 : (l0.length : Int) = (l1.length : Int)
 ·
  rw [if_pos c3] at H
  have c3b0 : ((l0.length : Int) == (l1.length : Int)) = true := beq_iff_eq.mpr c3
  have c3b1 : ((l0.length : Int) != (l1.length : Int)) = false := bne_eq_false_iff_eq.mpr c3
  have c3b2 : (l0.length == l1.length) = true := by first | simpa using c3 | (simp at c3 ⊢; omega)
  clear c3
  have H' := Aside0.mk H
  clear H
  go_enter Try.func114, Try.ntmps114
  go_wp2
  go_loopg [5] k (fun kq v5 w' => ∃ (x5_1 : Int), v5 = .int .i64 x5_1 ∧ Aside0 (laws_eqTallyS.l0 kq l0 l1 x5_1 = some r) ∧ Aside0 (kq ≤ k) ∧ Aside0 (Below w.heap.size w w'))
  case atStart => exact ⟨(0), z20_10, H', ⟨Nat.le_refl _⟩, ⟨z20_1⟩⟩
  case round =>
   clear H'
   try clear c1
   try clear p2
   try clear c3
   try clear c3b0
   try clear c3b1
   try clear c3b2
   obtain ⟨x5_1, rfl, HA, HK1, HB⟩ := hrel
   cases gk with
   | zero => exact absurd HA.out (by simp [laws_eqTallyS.l0])
   | succ k1 =>
    have H := HA.out
    clear HA
    simp only [laws_eqTallyS.l0] at H
    by_cases c4 : x5_1 < (l0.length : Int)
    ·
     rw [if_pos c4] at H
     have c4b0 : decide (x5_1 < (l0.length : Int)) = true := decide_eq_true c4
     clear c4
     by_cases c5 : 0 ≤ x5_1
     ·
      rw [if_pos c5] at H
      have c5b0 : decide (0 ≤ x5_1) = true := decide_eq_true c5
      clear c5
      by_cases c6 : x5_1 < (l1.length : Int)
      ·
       rw [if_pos c6] at H
       have c6b0 : decide (x5_1 < (l1.length : Int)) = true := decide_eq_true c6
       clear c6
       replace H := Option.bind_eq_some_iff.mp H
       obtain ⟨t614, A70, H⟩ := H
       (try dsimp only at H)
       have A7 := Aside0.mk A70
       clear A70
       by_cases c8 : t614 = true
       ·
        subst c8
        rw [if_pos rfl] at H
        have H' := Aside0.mk H
        clear H
        try go_wp2
        have n0_ := Aside0.mk (below_drew1 HB.out)
        clear HB
        have HB := n0_
        clear n0_
        have p612 : 0 ≤ (x5_1 : Int) := of_decide_eq_true z20_6
        have q612 : x5_1 < (l0.length : Int) := of_decide_eq_true z20_6
        obtain ⟨ad612, e612, hx612_0, hx612_1, hx612_2⟩ := at_T127 HR0.out x5_1 p612 q612
        have hw612_2 := hx612_2
        have hw612_1 := hx612_1
        have hw612_0 := hx612_0
        cases e612
        replace hx612_0 := (HB.out.cell (World.block_lt_of_cell? w _ hx612_0)).trans hx612_0
        replace hx612_1 := (HB.out.cell (World.block_lt_of_cell? w _ hx612_1)).trans hx612_1
        replace hx612_2 := (HB.out.cell (World.block_lt_of_cell? w _ hx612_2)).trans hx612_2
        replace p612 := eq_true p612
        replace q612 := eq_true q612
        have p613 : 0 ≤ (x5_1 : Int) := of_decide_eq_true z20_6
        have q613 : x5_1 < (l1.length : Int) := of_decide_eq_true z20_6
        obtain ⟨ad613, e613, hx613_0, hx613_1, hx613_2⟩ := at_T127 HR1.out x5_1 p613 q613
        have hw613_2 := hx613_2
        have hw613_1 := hx613_1
        have hw613_0 := hx613_0
        cases e613
        replace hx613_0 := (HB.out.cell (World.block_lt_of_cell? w _ hx613_0)).trans hx613_0
        replace hx613_1 := (HB.out.cell (World.block_lt_of_cell? w _ hx613_1)).trans hx613_1
        replace hx613_2 := (HB.out.cell (World.block_lt_of_cell? w _ hx613_2)).trans hx613_2
        replace p613 := eq_true p613
        replace q613 := eq_true q613
        refine start_ (n := 10) (S := fun w' => w'.cell? (ad612.add ((x5_1).toNat * 3)) = some (.string ((rd_T127 l0 x5_1).f0)) ∧ w'.cell? ⟨(ad612.add ((x5_1).toNat * 3)).block, (ad612.add ((x5_1).toNat * 3)).off + 1, none⟩ = some (.int .i64 ((rd_T127 l0 x5_1).f1)) ∧ w'.cell? ⟨(ad612.add ((x5_1).toNat * 3)).block, (ad612.add ((x5_1).toNat * 3)).off + 2, none⟩ = some (.int .i64 ((rd_T127 l0 x5_1).f2)) ∧ w'.cell? (ad613.add ((x5_1).toNat * 3)) = some (.string ((rd_T127 l1 x5_1).f0)) ∧ w'.cell? ⟨(ad613.add ((x5_1).toNat * 3)).block, (ad613.add ((x5_1).toNat * 3)).off + 1, none⟩ = some (.int .i64 ((rd_T127 l1 x5_1).f1)) ∧ w'.cell? ⟨(ad613.add ((x5_1).toNat * 3)).block, (ad613.add ((x5_1).toNat * 3)).off + 2, none⟩ = some (.int .i64 ((rd_T127 l1 x5_1).f2))) (ds := []) #[false, false, false, false, false, false, false, false, false, false] z20_8 rfl rfl ⟨((HB.out.cell (World.block_lt_of_cell? w _ hw612_0)).trans hw612_0), ((HB.out.cell (World.block_lt_of_cell? w _ hw612_1)).trans hw612_1), ((HB.out.cell (World.block_lt_of_cell? w _ hw612_2)).trans hw612_2), ((HB.out.cell (World.block_lt_of_cell? w _ hw613_0)).trans hw613_0), ((HB.out.cell (World.block_lt_of_cell? w _ hw613_1)).trans hw613_1), ((HB.out.cell (World.block_lt_of_cell? w _ hw613_2)).trans hw613_2)⟩ (fun hHeld => ?_); refine with_tabW laws_eqTallyS.tab6 laws_eqTallyS.bits6 (fun HT_ HW_ => ?_)
        generalize wr.drew = w9 at HB hx612_0 hx612_1 hx612_2 hx613_0 hx613_1 hx613_2 hHeld ⊢
        refine pure_ (i := 0) (N := some 17) (v := ?_) (a' := ?_) #[true, false, false, false, false, false, false, false, false, false] rfl rfl (any_of HT_.out z20_8) (fun _ _ _ h => h) (Or.inl ⟨by rfl, ?_⟩) ?_ ?_
        rotate_left
        ·
         exact z20_4
        rotate_left
        ·
         exact z20_0
        refine pure_ (i := 1) (N := some 18) (v := ?_) (a' := ?_) #[true, true, false, false, false, false, false, false, false, false] rfl rfl (any_of HT_.out z20_8) (fun _ _ _ h => h) (Or.inl ⟨by rfl, ?_⟩) ?_ ?_
        rotate_left
        ·
         exact z20_4
        rotate_left
        ·
         exact z20_0
        refine pure_ (i := 2) (N := some 19) (v := ?_) (a' := ?_) #[true, true, true, false, false, false, false, false, false, false] rfl rfl (any_of HT_.out z20_8) (fun _ _ _ h => h) (Or.inl ⟨by rfl, ?_⟩) ?_ ?_
        rotate_left
        ·
         exact z20_4
        rotate_left
        ·
         exact z20_0
        refine pure_ (i := 4) (N := some 21) (v := ?_) (a' := ?_) #[true, true, true, false, true, false, false, false, false, false] rfl rfl (any_of HT_.out z20_8) (fun _ _ _ h => h) (Or.inl ⟨by rfl, ?_⟩) ?_ ?_
        rotate_left
        ·
         exact z20_4
        rotate_left
        ·
         exact z20_0
        refine pure_ (i := 5) (N := some 22) (v := ?_) (a' := ?_) #[true, true, true, false, true, true, false, false, false, false] rfl rfl (any_of HT_.out z20_8) (fun _ _ _ h => h) (Or.inl ⟨by rfl, ?_⟩) ?_ ?_
        rotate_left
        ·
         exact z20_4
        rotate_left
        ·
         exact z20_0
        refine pure_ (i := 6) (N := some 23) (v := ?_) (a' := ?_) #[true, true, true, false, true, true, true, false, false, false] rfl rfl (any_of HT_.out z20_8) (fun _ _ _ h => h) (Or.inl ⟨by rfl, ?_⟩) ?_ ?_
        rotate_left
        ·
         exact z20_4
        rotate_left
        ·
         exact z20_0
        refine take_ (i := 3) (N := some 20) (v := ?_) (a' := ?_) #[true, true, true, true, true, true, true, false, false, false] rfl rfl (take_ofW HT_.out HW_.out z20_8) (fun _ _ _ h => h) (Or.inl ⟨by rfl, ?_⟩) hHeld ?_ ?_
        rotate_left
        ·
         rintro w' ⟨s0, s1, s2, s3, s4, s5⟩
         go_simp
         with_reducible rfl
        rotate_left
        ·
         exact z20_0
        refine take_ (i := 7) (N := some 24) (v := ?_) (a' := ?_) #[true, true, true, true, true, true, true, true, false, false] rfl rfl (take_ofW HT_.out HW_.out z20_8) (fun _ _ _ h => h) (Or.inl ⟨by rfl, ?_⟩) hHeld ?_ ?_
        rotate_left
        ·
         rintro w' ⟨s0, s1, s2, s3, s4, s5⟩
         go_simp
         with_reducible rfl
        rotate_left
        ·
         exact z20_0
        refine one_ (i := 8) (N := some 25) #[true, true, true, true, true, true, true, true, true, false] rfl rfl (one_of HT_.out z20_8) (by decide) (fun K hK => ?_)
        refine goes_ Try.func156 z20_8 rfl #[.agg #[.string ((rd_T127 l0 x5_1).f0), .int .i64 ((rd_T127 l0 x5_1).f1), .int .i64 ((rd_T127 l0 x5_1).f2)], .agg #[.string ((rd_T127 l1 x5_1).f0), .int .i64 ((rd_T127 l1 x5_1).f1), .int .i64 ((rd_T127 l1 x5_1).f2)]] (by rfl) rfl rfl z20_9 ?_
        with_reducible refine (laws_eqTally.calls ((rd_T127 l0 x5_1).f0) ((rd_T127 l0 x5_1).f1) ((rd_T127 l0 x5_1).f2) ((rd_T127 l1 x5_1).f0) ((rd_T127 l1 x5_1).f1) ((rd_T127 l1 x5_1).f2) true _ A7.out).mono ?_
        rintro e w10 ⟨rfl, hb⟩
        refine ⟨_, rfl, ?_⟩
        have n0_ := Aside0.mk (below_step z20_1 hb)
        clear HB
        have HB := n0_
        clear n0_
        (try clear hb)
        (try clear hb2)
        (try clear hk)
        (try clear hi)
        refine hK.out _ _ ⟨((HB.out.cell (World.block_lt_of_cell? w _ hw612_0)).trans hw612_0), ((HB.out.cell (World.block_lt_of_cell? w _ hw612_1)).trans hw612_1), ((HB.out.cell (World.block_lt_of_cell? w _ hw612_2)).trans hw612_2), ((HB.out.cell (World.block_lt_of_cell? w _ hw613_0)).trans hw613_0), ((HB.out.cell (World.block_lt_of_cell? w _ hw613_1)).trans hw613_1), ((HB.out.cell (World.block_lt_of_cell? w _ hw613_2)).trans hw613_2)⟩ (fun hHeld => ?_)
        clear hK K
        refine norm_ (a' := ?_) ?_ ?_
        rotate_left
        ·
         show Act.put _ (some 25) _ = _
         simp only [Act.put, List.setIfInBounds_toArray, List.set_cons_zero, List.set_cons_succ, i64_w, i32_w]
         rfl
        refine pure_ (i := 9) (N := some 26) (v := ?_) (a' := ?_) #[true, true, true, true, true, true, true, true, true, true] rfl rfl (any_of HT_.out z20_8) (fun _ _ _ h => h) (Or.inl ⟨by rfl, ?_⟩) ?_ ?_
        rotate_left
        ·
         exact z20_4
        rotate_left
        ·
         exact z20_0
        refine done_ (done_of HT_.out z20_8) ?_
        try go_wp2
        go_roundg k1
        case measure => have := HK1.out; omega
        case rel => exact ⟨(wrap64 (x5_1 + 1)), z20_10, H', ⟨by have := HK1.out; omega⟩, ⟨z20_1⟩⟩
       ·
        replace c8 := Bool.eq_false_iff.mpr c8
        subst c8
        rw [if_neg (show ¬ (false = true) by decide)] at H
        obtain rfl := Option.some.inj H
        try go_wp2
        have n0_ := Aside0.mk (below_drew1 HB.out)
        clear HB
        have HB := n0_
        clear n0_
        have p612 : 0 ≤ (x5_1 : Int) := of_decide_eq_true z20_6
        have q612 : x5_1 < (l0.length : Int) := of_decide_eq_true z20_6
        obtain ⟨ad612, e612, hx612_0, hx612_1, hx612_2⟩ := at_T127 HR0.out x5_1 p612 q612
        have hw612_2 := hx612_2
        have hw612_1 := hx612_1
        have hw612_0 := hx612_0
        cases e612
        replace hx612_0 := (HB.out.cell (World.block_lt_of_cell? w _ hx612_0)).trans hx612_0
        replace hx612_1 := (HB.out.cell (World.block_lt_of_cell? w _ hx612_1)).trans hx612_1
        replace hx612_2 := (HB.out.cell (World.block_lt_of_cell? w _ hx612_2)).trans hx612_2
        replace p612 := eq_true p612
        replace q612 := eq_true q612
        have p613 : 0 ≤ (x5_1 : Int) := of_decide_eq_true z20_6
        have q613 : x5_1 < (l1.length : Int) := of_decide_eq_true z20_6
        obtain ⟨ad613, e613, hx613_0, hx613_1, hx613_2⟩ := at_T127 HR1.out x5_1 p613 q613
        have hw613_2 := hx613_2
        have hw613_1 := hx613_1
        have hw613_0 := hx613_0
        cases e613
        replace hx613_0 := (HB.out.cell (World.block_lt_of_cell? w _ hx613_0)).trans hx613_0
        replace hx613_1 := (HB.out.cell (World.block_lt_of_cell? w _ hx613_1)).trans hx613_1
        replace hx613_2 := (HB.out.cell (World.block_lt_of_cell? w _ hx613_2)).trans hx613_2
        replace p613 := eq_true p613
        replace q613 := eq_true q613
        refine start_ (n := 10) (S := fun w' => w'.cell? (ad612.add ((x5_1).toNat * 3)) = some (.string ((rd_T127 l0 x5_1).f0)) ∧ w'.cell? ⟨(ad612.add ((x5_1).toNat * 3)).block, (ad612.add ((x5_1).toNat * 3)).off + 1, none⟩ = some (.int .i64 ((rd_T127 l0 x5_1).f1)) ∧ w'.cell? ⟨(ad612.add ((x5_1).toNat * 3)).block, (ad612.add ((x5_1).toNat * 3)).off + 2, none⟩ = some (.int .i64 ((rd_T127 l0 x5_1).f2)) ∧ w'.cell? (ad613.add ((x5_1).toNat * 3)) = some (.string ((rd_T127 l1 x5_1).f0)) ∧ w'.cell? ⟨(ad613.add ((x5_1).toNat * 3)).block, (ad613.add ((x5_1).toNat * 3)).off + 1, none⟩ = some (.int .i64 ((rd_T127 l1 x5_1).f1)) ∧ w'.cell? ⟨(ad613.add ((x5_1).toNat * 3)).block, (ad613.add ((x5_1).toNat * 3)).off + 2, none⟩ = some (.int .i64 ((rd_T127 l1 x5_1).f2))) (ds := []) #[false, false, false, false, false, false, false, false, false, false] z20_8 rfl rfl ⟨((HB.out.cell (World.block_lt_of_cell? w _ hw612_0)).trans hw612_0), ((HB.out.cell (World.block_lt_of_cell? w _ hw612_1)).trans hw612_1), ((HB.out.cell (World.block_lt_of_cell? w _ hw612_2)).trans hw612_2), ((HB.out.cell (World.block_lt_of_cell? w _ hw613_0)).trans hw613_0), ((HB.out.cell (World.block_lt_of_cell? w _ hw613_1)).trans hw613_1), ((HB.out.cell (World.block_lt_of_cell? w _ hw613_2)).trans hw613_2)⟩ (fun hHeld => ?_); refine with_tabW laws_eqTallyS.tab6 laws_eqTallyS.bits6 (fun HT_ HW_ => ?_)
        generalize wr.drew = w11 at HB hx612_0 hx612_1 hx612_2 hx613_0 hx613_1 hx613_2 hHeld ⊢
        refine pure_ (i := 0) (N := some 17) (v := ?_) (a' := ?_) #[true, false, false, false, false, false, false, false, false, false] rfl rfl (any_of HT_.out z20_8) (fun _ _ _ h => h) (Or.inl ⟨by rfl, ?_⟩) ?_ ?_
        rotate_left
        ·
         exact z20_4
        rotate_left
        ·
         exact z20_0
        refine pure_ (i := 1) (N := some 18) (v := ?_) (a' := ?_) #[true, true, false, false, false, false, false, false, false, false] rfl rfl (any_of HT_.out z20_8) (fun _ _ _ h => h) (Or.inl ⟨by rfl, ?_⟩) ?_ ?_
        rotate_left
        ·
         exact z20_4
        rotate_left
        ·
         exact z20_0
        refine pure_ (i := 2) (N := some 19) (v := ?_) (a' := ?_) #[true, true, true, false, false, false, false, false, false, false] rfl rfl (any_of HT_.out z20_8) (fun _ _ _ h => h) (Or.inl ⟨by rfl, ?_⟩) ?_ ?_
        rotate_left
        ·
         exact z20_4
        rotate_left
        ·
         exact z20_0
        refine pure_ (i := 4) (N := some 21) (v := ?_) (a' := ?_) #[true, true, true, false, true, false, false, false, false, false] rfl rfl (any_of HT_.out z20_8) (fun _ _ _ h => h) (Or.inl ⟨by rfl, ?_⟩) ?_ ?_
        rotate_left
        ·
         exact z20_4
        rotate_left
        ·
         exact z20_0
        refine pure_ (i := 5) (N := some 22) (v := ?_) (a' := ?_) #[true, true, true, false, true, true, false, false, false, false] rfl rfl (any_of HT_.out z20_8) (fun _ _ _ h => h) (Or.inl ⟨by rfl, ?_⟩) ?_ ?_
        rotate_left
        ·
         exact z20_4
        rotate_left
        ·
         exact z20_0
        refine pure_ (i := 6) (N := some 23) (v := ?_) (a' := ?_) #[true, true, true, false, true, true, true, false, false, false] rfl rfl (any_of HT_.out z20_8) (fun _ _ _ h => h) (Or.inl ⟨by rfl, ?_⟩) ?_ ?_
        rotate_left
        ·
         exact z20_4
        rotate_left
        ·
         exact z20_0
        refine take_ (i := 3) (N := some 20) (v := ?_) (a' := ?_) #[true, true, true, true, true, true, true, false, false, false] rfl rfl (take_ofW HT_.out HW_.out z20_8) (fun _ _ _ h => h) (Or.inl ⟨by rfl, ?_⟩) hHeld ?_ ?_
        rotate_left
        ·
         rintro w' ⟨s0, s1, s2, s3, s4, s5⟩
         go_simp
         with_reducible rfl
        rotate_left
        ·
         exact z20_0
        refine take_ (i := 7) (N := some 24) (v := ?_) (a' := ?_) #[true, true, true, true, true, true, true, true, false, false] rfl rfl (take_ofW HT_.out HW_.out z20_8) (fun _ _ _ h => h) (Or.inl ⟨by rfl, ?_⟩) hHeld ?_ ?_
        rotate_left
        ·
         rintro w' ⟨s0, s1, s2, s3, s4, s5⟩
         go_simp
         with_reducible rfl
        rotate_left
        ·
         exact z20_0
        refine one_ (i := 8) (N := some 25) #[true, true, true, true, true, true, true, true, true, false] rfl rfl (one_of HT_.out z20_8) (by decide) (fun K hK => ?_)
        refine goes_ Try.func156 z20_8 rfl #[.agg #[.string ((rd_T127 l0 x5_1).f0), .int .i64 ((rd_T127 l0 x5_1).f1), .int .i64 ((rd_T127 l0 x5_1).f2)], .agg #[.string ((rd_T127 l1 x5_1).f0), .int .i64 ((rd_T127 l1 x5_1).f1), .int .i64 ((rd_T127 l1 x5_1).f2)]] (by rfl) rfl rfl z20_9 ?_
        with_reducible refine (laws_eqTally.calls ((rd_T127 l0 x5_1).f0) ((rd_T127 l0 x5_1).f1) ((rd_T127 l0 x5_1).f2) ((rd_T127 l1 x5_1).f0) ((rd_T127 l1 x5_1).f1) ((rd_T127 l1 x5_1).f2) false _ A7.out).mono ?_
        rintro e w12 ⟨rfl, hb⟩
        refine ⟨_, rfl, ?_⟩
        have n0_ := Aside0.mk (below_step z20_1 hb)
        clear HB
        have HB := n0_
        clear n0_
        (try clear hb)
        (try clear hb2)
        (try clear hk)
        (try clear hi)
        refine hK.out _ _ ⟨((HB.out.cell (World.block_lt_of_cell? w _ hw612_0)).trans hw612_0), ((HB.out.cell (World.block_lt_of_cell? w _ hw612_1)).trans hw612_1), ((HB.out.cell (World.block_lt_of_cell? w _ hw612_2)).trans hw612_2), ((HB.out.cell (World.block_lt_of_cell? w _ hw613_0)).trans hw613_0), ((HB.out.cell (World.block_lt_of_cell? w _ hw613_1)).trans hw613_1), ((HB.out.cell (World.block_lt_of_cell? w _ hw613_2)).trans hw613_2)⟩ (fun hHeld => ?_)
        clear hK K
        refine norm_ (a' := ?_) ?_ ?_
        rotate_left
        ·
         show Act.put _ (some 25) _ = _
         simp only [Act.put, List.setIfInBounds_toArray, List.set_cons_zero, List.set_cons_succ, i64_w, i32_w]
         rfl
        refine pure_ (i := 9) (N := some 26) (v := ?_) (a' := ?_) #[true, true, true, true, true, true, true, true, true, true] rfl rfl (any_of HT_.out z20_8) (fun _ _ _ h => h) (Or.inl ⟨by rfl, ?_⟩) ?_ ?_
        rotate_left
        ·
         exact z20_4
        rotate_left
        ·
         exact z20_0
        refine done_ (done_of HT_.out z20_8) ?_
        try go_wp2
        go_ret
        exact ⟨z20_5, z20_1⟩
      ·
       rw [if_neg c6] at H
       exact absurd H (by simp)
     ·
      rw [if_neg c5] at H
      exact absurd H (by simp)
    ·
     rw [if_neg c4] at H
     have c4b0 : decide (x5_1 < (l0.length : Int)) = false := decide_eq_false c4
     clear c4
     obtain rfl := Option.some.inj H
     go_wp2
     go_ret
     exact ⟨z20_5, z20_1⟩
 ·
  rw [if_neg c3] at H
  have c3b0 : ((l0.length : Int) == (l1.length : Int)) = false := beq_eq_false_iff_ne.mpr c3
  have c3b1 : ((l0.length : Int) != (l1.length : Int)) = true := bne_iff_ne.mpr c3
  have c3b2 : (l0.length == l1.length) = false := by first | simpa using c3 | (simp at c3 ⊢; omega)
  obtain rfl := Option.some.inj H
  go_enter Try.func114, Try.ntmps114
  go_wp2
  go_ret
  exact ⟨z20_5, z20_1⟩
end Go.Proofs.Ytmohbiagcbfkpaa.QAct
