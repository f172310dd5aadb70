/- What the functions behind Act compute, and that the program's calls come to just that. Written by a program of this session on the base of the kit's print. No condition. -/
import Derived.Test.YtmohbiagcbfkpaaVFnExactStateNewQActx0
import Derived.Test.YtmohbiagcbfkpaaVFnExactStateNewQActx22
namespace Go.Proofs.Ytmohbiagcbfkpaa.QAct
open Go.RowKit Go.Proofs.YtmohbiagcbfkpaaW.PrintWords Go.Proofs.YtmohbiagcbfkpaaW.PrintLast Go.Proofs.YtmohbiagcbfkpaaW.PrintMore
attribute [local go_sem] max2_int min2_int max_two min_two max_three min_three max_four min_four   -- for this text's walks alone
set_option linter.unusedVariables false
set_option linter.unusedSimpArgs false
theorem z24_7 {P : Prop} (h : P := by first | rfl | (simp; done) | (simp [*]; done)) : P := h
theorem z24_6 {P : Prop} (h : P := by first | rfl | (simp [errW_none, errW_some] <;> rfl) | (simp [*, errW_none, errW_some] <;> rfl)) : P := h
theorem z24_5 {P : Prop} (h : P := by first | rfl | (simp only [List.map_toArray, List.map_cons, List.map_nil]; first | done | rfl)) : P := h
theorem z24_4 {P : Prop} (h : P := by kernel_rfl) : P := h
theorem z24_3 {P : Prop} (h : P := by intro w'; go_simp; with_reducible rfl) : P := h
theorem z24_2 {P : Prop} (h : P := by repeat (first | (with_reducible first | exact HB.out | apply below_alloc | apply pw_below_drewN | apply below_drew1) | exact HB.out)) : P := h
theorem z24_1 {P : Prop} (h : P := by first | (with_reducible assumption) | assumption) : P := h
theorem z24_0 {P : Prop} (h : P := by simp only [Act.put, List.setIfInBounds_toArray, List.set_cons_zero, List.set_cons_succ, i64_w, i32_w]; rfl) : P := h
def laws_heldLiveS.l0 : Nat → List (S134) → Int → Int → Option (Int)
  | 0, _, _, _ => none
  | k + 1, x0, x1, x5 => if x5 < (x0.length : Int) then (if 0 ≤ x5 then (if (((rd_T134 x0 x5).f0) != ((Int.tmod x1 3) == 0)) = true then (some (-1)) else ((laws_markText.f k (wrap64 (x1 + 1))).bind fun t681 => (if ((rd_T134 x0 x5).f1).toList = t681.toList then ((laws_markText.f k (wrap64 ((wrap64 (x1 + 1)) + 1))).bind fun t683 => (if ((rd_T134 x0 x5).f2).toList = t683.toList then (if ((rd_T134 x0 x5).f3) = (wrap64 ((wrap64 ((wrap64 (x1 + 1)) + 1)) + 1)) then (if ((rd_T134 x0 x5).f4.f0) = (wrap64 ((wrap64 ((wrap64 ((wrap64 (x1 + 1)) + 1)) + 1)) + 1)) then (if ((rd_T134 x0 x5).f4.f1) = (wrap64 ((wrap64 ((wrap64 ((wrap64 ((wrap64 (x1 + 1)) + 1)) + 1)) + 1)) + 1)) then (laws_heldLiveS.l0 k x0 (wrap64 ((wrap64 ((wrap64 ((wrap64 ((wrap64 ((wrap64 (x1 + 1)) + 1)) + 1)) + 1)) + 1)) + 1)) (wrap64 (x5 + 1))) else (some (-1))) else (some (-1))) else (some (-1))) else (some (-1)))) else (some (-1))))) else (none)) else (some x1)
def laws_heldLiveS.f (k : Nat) (l0 : List (S134)) (a1 : Int) : Option (Int) := laws_heldLiveS.l0 k l0 a1 0
def laws_heldLiveS.T7 : Bool × List (List Nat × List Nat) := (true, [([], []), ([], []), ([0, 1], [0, 1]), ([2], [2]), ([3], [3]), ([], []), ([5], [5]), ([4, 6], [4, 6])])
def laws_heldLiveS.B7 : List Nat := [0, 0, 3, 7, 15, 0, 32, 127]
theorem laws_heldLiveS.tab7 : rtab .any (opsOf Try.f39 7) = laws_heldLiveS.T7 := by kernel_rfl
theorem laws_heldLiveS.bits7 : waitsOk laws_heldLiveS.T7.2 laws_heldLiveS.B7 = true := by kernel_rfl
def laws_heldLiveS.T10 : Bool × List (List Nat × List Nat) := (true, [([], []), ([], []), ([0, 1], [0, 1]), ([2], [2]), ([3], [3]), ([], []), ([5], [5]), ([4, 6], [4, 6])])
def laws_heldLiveS.B10 : List Nat := [0, 0, 3, 7, 15, 0, 32, 127]
theorem laws_heldLiveS.tab10 : rtab .any (opsOf Try.f39 10) = laws_heldLiveS.T10 := by kernel_rfl
theorem laws_heldLiveS.bits10 : waitsOk laws_heldLiveS.T10.2 laws_heldLiveS.B10 = true := by kernel_rfl
set_option maxHeartbeats 8000000 in
set_option maxRecDepth 100000 in
theorem laws_heldLiveS.calls (k : Nat) (A0 : Option Addr) (c0 : Nat) (l0 : List (S134)) (a1 : Int) (r : Int) (w : World) (hr0 : Kd.C k134 w A0 l0.length l0) (hc0 : l0.length ≤ c0) (h : laws_heldLiveS.f k l0 a1 = some r) :
  Calls Try.prog 39 #[.slice A0 l0.length c0, .int .i64 a1] w fun e w' => e = .returned (.int .i64 r) ∧ Below w.heap.size w w' := by
 have HR0 := Aside0.mk hr0
 have HC0 := Aside0.mk hc0
 clear hr0 hc0
 have HB := Aside0.mk (Below.refl w.heap.size w)
 have H : (laws_heldLiveS.l0 k l0 a1 0) = some r := h
 clear h
 have H' := Aside0.mk H
 clear H
 go_enter Try.func39, Try.ntmps39
 go_wp2
 go_loopg [1, 5] k (fun kq v1 v5 w' => ∃ (x1_1 : Int) (x5_1 : Int), v1 = .int .i64 x1_1 ∧ v5 = .int .i64 x5_1 ∧ Aside0 (laws_heldLiveS.l0 kq l0 x1_1 x5_1 = some r) ∧ Aside0 (kq ≤ k) ∧ Aside0 (Below w.heap.size w w'))
 case atStart => exact ⟨(a1), (0), z24_7, z24_7, H', ⟨Nat.le_refl _⟩, ⟨z24_2⟩⟩
 case round =>
  clear H'
  try clear p2
  obtain ⟨x1_1, x5_1, rfl, rfl, HA, HK1, HB⟩ := hrel
  cases gk with
  | zero => exact absurd HA.out (by simp [laws_heldLiveS.l0])
  | succ k1 =>
   have H := HA.out
   clear HA
   simp only [laws_heldLiveS.l0] at H
   by_cases c3 : x5_1 < (l0.length : Int)
   ·
    rw [if_pos c3] at H
    have c3b0 : decide (x5_1 < (l0.length : Int)) = true := decide_eq_true c3
    clear c3
    by_cases c4 : 0 ≤ x5_1
    ·
     rw [if_pos c4] at H
     have c4b0 : decide (0 ≤ x5_1) = true := decide_eq_true c4
     clear c4
     by_cases c5 : (((rd_T134 l0 x5_1).f0) != ((Int.tmod x1_1 3) == 0)) = true
     ·
      rw [if_pos c5] at H
      have c5b0 : (((rd_T134 l0 x5_1).f0) != ((Int.tmod x1_1 3) == 0)) = true := c5
      (try (have c5b1 : decide (((rd_T134 l0 x5_1).f0) = ((Int.tmod x1_1 3) == 0)) = false := by simpa using c5))
      (try (have c5b2 : (((rd_T134 l0 x5_1).f0) == ((Int.tmod x1_1 3) == 0)) = false := by simpa using c5))
      (try (have c5b3 : ¬ (((rd_T134 l0 x5_1).f0) = ((Int.tmod x1_1 3) == 0)) := by simpa using c5))
      clear c5
      obtain rfl := Option.some.inj H
      have p679 : 0 ≤ (x5_1 : Int) := of_decide_eq_true z24_1
      have q679 : x5_1 < (l0.length : Int) := of_decide_eq_true z24_1
      obtain ⟨ad679, e679, hx679_0, hx679_1, hx679_2, hx679_3, hx679_4, hx679_5⟩ := at_T134 HR0.out x5_1 p679 q679
      cases e679
      replace hx679_0 := (HB.out.cell (World.block_lt_of_cell? w _ hx679_0)).trans hx679_0
      replace hx679_1 := (HB.out.cell (World.block_lt_of_cell? w _ hx679_1)).trans hx679_1
      replace hx679_2 := (HB.out.cell (World.block_lt_of_cell? w _ hx679_2)).trans hx679_2
      replace hx679_3 := (HB.out.cell (World.block_lt_of_cell? w _ hx679_3)).trans hx679_3
      replace hx679_4 := (HB.out.cell (World.block_lt_of_cell? w _ hx679_4)).trans hx679_4
      replace hx679_5 := (HB.out.cell (World.block_lt_of_cell? w _ hx679_5)).trans hx679_5
      replace p679 := eq_true p679
      replace q679 := eq_true q679
      go_wp2
      go_ret
      exact ⟨z24_6, z24_2⟩
     ·
      rw [if_neg c5] at H
      have c5b0 : (((rd_T134 l0 x5_1).f0) != ((Int.tmod x1_1 3) == 0)) = false := by simpa using c5
      (try (have c5b1 : decide (((rd_T134 l0 x5_1).f0) = ((Int.tmod x1_1 3) == 0)) = true := by simpa using c5))
      (try (have c5b2 : (((rd_T134 l0 x5_1).f0) == ((Int.tmod x1_1 3) == 0)) = true := by simpa using c5))
      clear c5
      replace H := Option.bind_eq_some_iff.mp H
      obtain ⟨t681, A60, H⟩ := H
      (try dsimp only at H)
      have A6 := Aside0.mk A60
      clear A60
      by_cases c7 : ((rd_T134 l0 x5_1).f1).toList = t681.toList
      ·
       rw [if_pos c7] at H
       have c7b0 : (((rd_T134 l0 x5_1).f1).toList == t681.toList) = true := beq_iff_eq.mpr c7
       have c7b1 : (((rd_T134 l0 x5_1).f1).toList != t681.toList) = false := bne_eq_false_iff_eq.mpr c7
       clear c7
       replace H := Option.bind_eq_some_iff.mp H
       obtain ⟨t683, A80, H⟩ := H
       (try dsimp only at H)
       have A8 := Aside0.mk A80
       clear A80
       by_cases c9 : ((rd_T134 l0 x5_1).f2).toList = t683.toList
       ·
        rw [if_pos c9] at H
        have c9b0 : (((rd_T134 l0 x5_1).f2).toList == t683.toList) = true := beq_iff_eq.mpr c9
        have c9b1 : (((rd_T134 l0 x5_1).f2).toList != t683.toList) = false := bne_eq_false_iff_eq.mpr c9
        clear c9
        by_cases c10 : ((rd_T134 l0 x5_1).f3) = (wrap64 ((wrap64 ((wrap64 (x1_1 + 1)) + 1)) + 1))
        ·
         rw [if_pos c10] at H
         have c10b0 : (((rd_T134 l0 x5_1).f3) == (wrap64 ((wrap64 ((wrap64 (x1_1 + 1)) + 1)) + 1))) = true := beq_iff_eq.mpr c10
         have c10b1 : (((rd_T134 l0 x5_1).f3) != (wrap64 ((wrap64 ((wrap64 (x1_1 + 1)) + 1)) + 1))) = false := bne_eq_false_iff_eq.mpr c10
         clear c10
         by_cases c11 : ((rd_T134 l0 x5_1).f4.f0) = (wrap64 ((wrap64 ((wrap64 ((wrap64 (x1_1 + 1)) + 1)) + 1)) + 1))
         ·
          rw [if_pos c11] at H
          have c11b0 : (((rd_T134 l0 x5_1).f4.f0) == (wrap64 ((wrap64 ((wrap64 ((wrap64 (x1_1 + 1)) + 1)) + 1)) + 1))) = true := beq_iff_eq.mpr c11
          have c11b1 : (((rd_T134 l0 x5_1).f4.f0) != (wrap64 ((wrap64 ((wrap64 ((wrap64 (x1_1 + 1)) + 1)) + 1)) + 1))) = false := bne_eq_false_iff_eq.mpr c11
          clear c11
          by_cases c12 : ((rd_T134 l0 x5_1).f4.f1) = (wrap64 ((wrap64 ((wrap64 ((wrap64 ((wrap64 (x1_1 + 1)) + 1)) + 1)) + 1)) + 1))
          ·
           rw [if_pos c12] at H
           have c12b0 : (((rd_T134 l0 x5_1).f4.f1) == (wrap64 ((wrap64 ((wrap64 ((wrap64 ((wrap64 (x1_1 + 1)) + 1)) + 1)) + 1)) + 1))) = true := beq_iff_eq.mpr c12
           have c12b1 : (((rd_T134 l0 x5_1).f4.f1) != (wrap64 ((wrap64 ((wrap64 ((wrap64 ((wrap64 (x1_1 + 1)) + 1)) + 1)) + 1)) + 1))) = false := bne_eq_false_iff_eq.mpr c12
           clear c12
           have H' := Aside0.mk H
           clear H
           have p679 : 0 ≤ (x5_1 : Int) := of_decide_eq_true z24_1
           have q679 : x5_1 < (l0.length : Int) := of_decide_eq_true z24_1
           obtain ⟨ad679, e679, hx679_0, hx679_1, hx679_2, hx679_3, hx679_4, hx679_5⟩ := at_T134 HR0.out x5_1 p679 q679
           cases e679
           replace hx679_0 := (HB.out.cell (World.block_lt_of_cell? w _ hx679_0)).trans hx679_0
           replace hx679_1 := (HB.out.cell (World.block_lt_of_cell? w _ hx679_1)).trans hx679_1
           replace hx679_2 := (HB.out.cell (World.block_lt_of_cell? w _ hx679_2)).trans hx679_2
           replace hx679_3 := (HB.out.cell (World.block_lt_of_cell? w _ hx679_3)).trans hx679_3
           replace hx679_4 := (HB.out.cell (World.block_lt_of_cell? w _ hx679_4)).trans hx679_4
           replace hx679_5 := (HB.out.cell (World.block_lt_of_cell? w _ hx679_5)).trans hx679_5
           replace p679 := eq_true p679
           replace q679 := eq_true q679
           try go_wp2
           have n0_ := Aside0.mk (below_drew1 HB.out)
           clear HB
           have HB := n0_
           clear n0_
           have p680 : 0 ≤ (x5_1 : Int) := of_decide_eq_true z24_1
           have q680 : x5_1 < (l0.length : Int) := of_decide_eq_true z24_1
           obtain ⟨ad680, e680, hx680_0, hx680_1, hx680_2, hx680_3, hx680_4, hx680_5⟩ := at_T134 HR0.out x5_1 p680 q680
           have hw680_5 := hx680_5
           have hw680_4 := hx680_4
           have hw680_3 := hx680_3
           have hw680_2 := hx680_2
           have hw680_1 := hx680_1
           have hw680_0 := hx680_0
           obtain rfl : ad679 = ad680 := (by injection e680)
           replace hx680_0 := (HB.out.cell (World.block_lt_of_cell? w _ hx680_0)).trans hx680_0
           replace hx680_1 := (HB.out.cell (World.block_lt_of_cell? w _ hx680_1)).trans hx680_1
           replace hx680_2 := (HB.out.cell (World.block_lt_of_cell? w _ hx680_2)).trans hx680_2
           replace hx680_3 := (HB.out.cell (World.block_lt_of_cell? w _ hx680_3)).trans hx680_3
           replace hx680_4 := (HB.out.cell (World.block_lt_of_cell? w _ hx680_4)).trans hx680_4
           replace hx680_5 := (HB.out.cell (World.block_lt_of_cell? w _ hx680_5)).trans hx680_5
           replace p680 := eq_true p680
           replace q680 := eq_true q680
           refine start_ (n := 8) (S := fun w' => w'.cell? (ad679.add ((x5_1).toNat * 6)) = some (.bool ((rd_T134 l0 x5_1).f0)) ∧ w'.cell? ⟨(ad679.add ((x5_1).toNat * 6)).block, (ad679.add ((x5_1).toNat * 6)).off + 1, none⟩ = some (.string ((rd_T134 l0 x5_1).f1)) ∧ w'.cell? ⟨(ad679.add ((x5_1).toNat * 6)).block, (ad679.add ((x5_1).toNat * 6)).off + 2, none⟩ = some (.string ((rd_T134 l0 x5_1).f2)) ∧ w'.cell? ⟨(ad679.add ((x5_1).toNat * 6)).block, (ad679.add ((x5_1).toNat * 6)).off + 3, none⟩ = some (.int .i64 ((rd_T134 l0 x5_1).f3)) ∧ w'.cell? ⟨(ad679.add ((x5_1).toNat * 6)).block, (ad679.add ((x5_1).toNat * 6)).off + 4, none⟩ = some (.int .i64 ((rd_T134 l0 x5_1).f4.f0)) ∧ w'.cell? ⟨(ad679.add ((x5_1).toNat * 6)).block, (ad679.add ((x5_1).toNat * 6)).off + 5, none⟩ = some (.int .i64 ((rd_T134 l0 x5_1).f4.f1))) (ds := []) #[false, false, false, false, false, false, false, false] z24_4 rfl rfl ⟨((HB.out.cell (World.block_lt_of_cell? w _ hw680_0)).trans hw680_0), ((HB.out.cell (World.block_lt_of_cell? w _ hw680_1)).trans hw680_1), ((HB.out.cell (World.block_lt_of_cell? w _ hw680_2)).trans hw680_2), ((HB.out.cell (World.block_lt_of_cell? w _ hw680_3)).trans hw680_3), ((HB.out.cell (World.block_lt_of_cell? w _ hw680_4)).trans hw680_4), ((HB.out.cell (World.block_lt_of_cell? w _ hw680_5)).trans hw680_5)⟩ (fun hHeld => ?_); refine with_tabW laws_heldLiveS.tab7 laws_heldLiveS.bits7 (fun HT_ HW_ => ?_)
           generalize wr.drew = w13 at HB hx680_0 hx680_1 hx680_2 hx680_3 hx680_4 hx680_5 hHeld ⊢
           refine pure_ (i := 0) (N := some 23) (v := ?_) (a' := ?_) #[true, false, false, false, false, false, false, false] rfl rfl (any_of HT_.out z24_4) (fun _ _ _ h => h) (Or.inl ⟨by rfl, ?_⟩) ?_ ?_
           rotate_left
           ·
            exact z24_3
           rotate_left
           ·
            exact z24_0
           refine pure_ (i := 1) (N := some 24) (v := ?_) (a' := ?_) #[true, true, false, false, false, false, false, false] rfl rfl (any_of HT_.out z24_4) (fun _ _ _ h => h) (Or.inl ⟨by rfl, ?_⟩) ?_ ?_
           rotate_left
           ·
            exact z24_3
           rotate_left
           ·
            exact z24_0
           refine pure_ (i := 2) (N := some 25) (v := ?_) (a' := ?_) #[true, true, true, false, false, false, false, false] rfl rfl (any_of HT_.out z24_4) (fun _ _ _ h => h) (Or.inl ⟨by rfl, ?_⟩) ?_ ?_
           rotate_left
           ·
            exact z24_3
           rotate_left
           ·
            exact z24_0
           refine pure_ (i := 3) (N := some 26) (v := ?_) (a' := ?_) #[true, true, true, true, false, false, false, false] rfl rfl (any_of HT_.out z24_4) (fun _ _ _ h => h) (Or.inl ⟨by rfl, ?_⟩) ?_ ?_
           rotate_left
           ·
            exact z24_3
           rotate_left
           ·
            exact z24_0
           refine pure_ (i := 5) (N := some 28) (v := ?_) (a' := ?_) #[true, true, true, true, false, true, false, false] rfl rfl (any_of HT_.out z24_4) (fun _ _ _ h => h) (Or.inl ⟨by rfl, ?_⟩) ?_ ?_
           rotate_left
           ·
            exact z24_3
           rotate_left
           ·
            exact z24_0
           refine take_ (i := 4) (N := some 27) (v := ?_) (a' := ?_) #[true, true, true, true, true, true, false, false] rfl rfl (take_ofW HT_.out HW_.out z24_4) (fun _ _ _ h => h) (Or.inl ⟨by rfl, ?_⟩) hHeld ?_ ?_
           rotate_left
           ·
            rintro w' ⟨s0, s1, s2, s3, s4, s5⟩
            go_simp
            with_reducible rfl
           rotate_left
           ·
            exact z24_0
           refine one_ (i := 6) (N := some 29) #[true, true, true, true, true, true, true, false] rfl rfl (one_of HT_.out z24_4) (by decide) (fun K hK => ?_)
           refine goes_ Try.func119 z24_4 rfl #[.int .i64 (wrap64 (x1_1 + 1))] (by rfl) rfl rfl z24_5 ?_
           with_reducible refine (laws_markText.calls k1 (wrap64 (x1_1 + 1)) t681 _ A6.out).mono ?_
           rintro e w14 ⟨rfl, hb⟩
           refine ⟨_, rfl, ?_⟩
           have n0_ := Aside0.mk (below_step z24_2 hb)
           clear HB
           have HB := n0_
           clear n0_
           (try clear hb)
           (try clear hb2)
           (try clear hk)
           (try clear hi)
           refine hK.out _ _ ⟨((HB.out.cell (World.block_lt_of_cell? w _ hw680_0)).trans hw680_0), ((HB.out.cell (World.block_lt_of_cell? w _ hw680_1)).trans hw680_1), ((HB.out.cell (World.block_lt_of_cell? w _ hw680_2)).trans hw680_2), ((HB.out.cell (World.block_lt_of_cell? w _ hw680_3)).trans hw680_3), ((HB.out.cell (World.block_lt_of_cell? w _ hw680_4)).trans hw680_4), ((HB.out.cell (World.block_lt_of_cell? w _ hw680_5)).trans hw680_5)⟩ (fun hHeld => ?_)
           clear hK K
           refine norm_ (a' := ?_) ?_ ?_
           rotate_left
           ·
            show Act.put _ (some 29) _ = _
            simp only [Act.put, List.setIfInBounds_toArray, List.set_cons_zero, List.set_cons_succ, i64_w, i32_w]
            rfl
           refine pure_ (i := 7) (N := some 30) (v := ?_) (a' := ?_) #[true, true, true, true, true, true, true, true] rfl rfl (any_of HT_.out z24_4) (fun _ _ _ h => h) (Or.inl ⟨by rfl, ?_⟩) ?_ ?_
           rotate_left
           ·
            exact z24_3
           rotate_left
           ·
            exact z24_0
           refine done_ (done_of HT_.out z24_4) ?_
           try go_wp2
           have n0_ := Aside0.mk (below_drew1 HB.out)
           clear HB
           have HB := n0_
           clear n0_
           have p682 : 0 ≤ (x5_1 : Int) := of_decide_eq_true z24_1
           have q682 : x5_1 < (l0.length : Int) := of_decide_eq_true z24_1
           obtain ⟨ad682, e682, hx682_0, hx682_1, hx682_2, hx682_3, hx682_4, hx682_5⟩ := at_T134 HR0.out x5_1 p682 q682
           have hw682_5 := hx682_5
           have hw682_4 := hx682_4
           have hw682_3 := hx682_3
           have hw682_2 := hx682_2
           have hw682_1 := hx682_1
           have hw682_0 := hx682_0
           obtain rfl : ad679 = ad682 := (by injection e682)
           replace hx682_0 := (HB.out.cell (World.block_lt_of_cell? w _ hx682_0)).trans hx682_0
           replace hx682_1 := (HB.out.cell (World.block_lt_of_cell? w _ hx682_1)).trans hx682_1
           replace hx682_2 := (HB.out.cell (World.block_lt_of_cell? w _ hx682_2)).trans hx682_2
           replace hx682_3 := (HB.out.cell (World.block_lt_of_cell? w _ hx682_3)).trans hx682_3
           replace hx682_4 := (HB.out.cell (World.block_lt_of_cell? w _ hx682_4)).trans hx682_4
           replace hx682_5 := (HB.out.cell (World.block_lt_of_cell? w _ hx682_5)).trans hx682_5
           replace p682 := eq_true p682
           replace q682 := eq_true q682
           refine start_ (n := 8) (S := fun w' => w'.cell? (ad679.add ((x5_1).toNat * 6)) = some (.bool ((rd_T134 l0 x5_1).f0)) ∧ w'.cell? ⟨(ad679.add ((x5_1).toNat * 6)).block, (ad679.add ((x5_1).toNat * 6)).off + 1, none⟩ = some (.string ((rd_T134 l0 x5_1).f1)) ∧ w'.cell? ⟨(ad679.add ((x5_1).toNat * 6)).block, (ad679.add ((x5_1).toNat * 6)).off + 2, none⟩ = some (.string ((rd_T134 l0 x5_1).f2)) ∧ w'.cell? ⟨(ad679.add ((x5_1).toNat * 6)).block, (ad679.add ((x5_1).toNat * 6)).off + 3, none⟩ = some (.int .i64 ((rd_T134 l0 x5_1).f3)) ∧ w'.cell? ⟨(ad679.add ((x5_1).toNat * 6)).block, (ad679.add ((x5_1).toNat * 6)).off + 4, none⟩ = some (.int .i64 ((rd_T134 l0 x5_1).f4.f0)) ∧ w'.cell? ⟨(ad679.add ((x5_1).toNat * 6)).block, (ad679.add ((x5_1).toNat * 6)).off + 5, none⟩ = some (.int .i64 ((rd_T134 l0 x5_1).f4.f1))) (ds := []) #[false, false, false, false, false, false, false, false] z24_4 rfl rfl ⟨((HB.out.cell (World.block_lt_of_cell? w _ hw682_0)).trans hw682_0), ((HB.out.cell (World.block_lt_of_cell? w _ hw682_1)).trans hw682_1), ((HB.out.cell (World.block_lt_of_cell? w _ hw682_2)).trans hw682_2), ((HB.out.cell (World.block_lt_of_cell? w _ hw682_3)).trans hw682_3), ((HB.out.cell (World.block_lt_of_cell? w _ hw682_4)).trans hw682_4), ((HB.out.cell (World.block_lt_of_cell? w _ hw682_5)).trans hw682_5)⟩ (fun hHeld => ?_); refine with_tabW laws_heldLiveS.tab10 laws_heldLiveS.bits10 (fun HT_ HW_ => ?_)
           generalize w14.drew = w15 at HB hx682_0 hx682_1 hx682_2 hx682_3 hx682_4 hx682_5 hHeld ⊢
           refine pure_ (i := 0) (N := some 33) (v := ?_) (a' := ?_) #[true, false, false, false, false, false, false, false] rfl rfl (any_of HT_.out z24_4) (fun _ _ _ h => h) (Or.inl ⟨by rfl, ?_⟩) ?_ ?_
           rotate_left
           ·
            exact z24_3
           rotate_left
           ·
            exact z24_0
           refine pure_ (i := 1) (N := some 34) (v := ?_) (a' := ?_) #[true, true, false, false, false, false, false, false] rfl rfl (any_of HT_.out z24_4) (fun _ _ _ h => h) (Or.inl ⟨by rfl, ?_⟩) ?_ ?_
           rotate_left
           ·
            exact z24_3
           rotate_left
           ·
            exact z24_0
           refine pure_ (i := 2) (N := some 35) (v := ?_) (a' := ?_) #[true, true, true, false, false, false, false, false] rfl rfl (any_of HT_.out z24_4) (fun _ _ _ h => h) (Or.inl ⟨by rfl, ?_⟩) ?_ ?_
           rotate_left
           ·
            exact z24_3
           rotate_left
           ·
            exact z24_0
           refine pure_ (i := 3) (N := some 36) (v := ?_) (a' := ?_) #[true, true, true, true, false, false, false, false] rfl rfl (any_of HT_.out z24_4) (fun _ _ _ h => h) (Or.inl ⟨by rfl, ?_⟩) ?_ ?_
           rotate_left
           ·
            exact z24_3
           rotate_left
           ·
            exact z24_0
           refine pure_ (i := 5) (N := some 38) (v := ?_) (a' := ?_) #[true, true, true, true, false, true, false, false] rfl rfl (any_of HT_.out z24_4) (fun _ _ _ h => h) (Or.inl ⟨by rfl, ?_⟩) ?_ ?_
           rotate_left
           ·
            exact z24_3
           rotate_left
           ·
            exact z24_0
           refine take_ (i := 4) (N := some 37) (v := ?_) (a' := ?_) #[true, true, true, true, true, true, false, false] rfl rfl (take_ofW HT_.out HW_.out z24_4) (fun _ _ _ h => h) (Or.inl ⟨by rfl, ?_⟩) hHeld ?_ ?_
           rotate_left
           ·
            rintro w' ⟨s0, s1, s2, s3, s4, s5⟩
            go_simp
            with_reducible rfl
           rotate_left
           ·
            exact z24_0
           refine one_ (i := 6) (N := some 39) #[true, true, true, true, true, true, true, false] rfl rfl (one_of HT_.out z24_4) (by decide) (fun K hK => ?_)
           refine goes_ Try.func119 z24_4 rfl #[.int .i64 (wrap64 ((wrap64 (x1_1 + 1)) + 1))] (by rfl) rfl rfl z24_5 ?_
           with_reducible refine (laws_markText.calls k1 (wrap64 ((wrap64 (x1_1 + 1)) + 1)) t683 _ A8.out).mono ?_
           rintro e w16 ⟨rfl, hb⟩
           refine ⟨_, rfl, ?_⟩
           have n0_ := Aside0.mk (below_step z24_2 hb)
           clear HB
           have HB := n0_
           clear n0_
           (try clear hb)
           (try clear hb2)
           (try clear hk)
           (try clear hi)
           refine hK.out _ _ ⟨((HB.out.cell (World.block_lt_of_cell? w _ hw682_0)).trans hw682_0), ((HB.out.cell (World.block_lt_of_cell? w _ hw682_1)).trans hw682_1), ((HB.out.cell (World.block_lt_of_cell? w _ hw682_2)).trans hw682_2), ((HB.out.cell (World.block_lt_of_cell? w _ hw682_3)).trans hw682_3), ((HB.out.cell (World.block_lt_of_cell? w _ hw682_4)).trans hw682_4), ((HB.out.cell (World.block_lt_of_cell? w _ hw682_5)).trans hw682_5)⟩ (fun hHeld => ?_)
           clear hK K
           refine norm_ (a' := ?_) ?_ ?_
           rotate_left
           ·
            show Act.put _ (some 39) _ = _
            simp only [Act.put, List.setIfInBounds_toArray, List.set_cons_zero, List.set_cons_succ, i64_w, i32_w]
            rfl
           refine pure_ (i := 7) (N := some 40) (v := ?_) (a' := ?_) #[true, true, true, true, true, true, true, true] rfl rfl (any_of HT_.out z24_4) (fun _ _ _ h => h) (Or.inl ⟨by rfl, ?_⟩) ?_ ?_
           rotate_left
           ·
            exact z24_3
           rotate_left
           ·
            exact z24_0
           refine done_ (done_of HT_.out z24_4) ?_
           have p684 : 0 ≤ (x5_1 : Int) := of_decide_eq_true z24_1
           have q684 : x5_1 < (l0.length : Int) := of_decide_eq_true z24_1
           obtain ⟨ad684, e684, hx684_0, hx684_1, hx684_2, hx684_3, hx684_4, hx684_5⟩ := at_T134 HR0.out x5_1 p684 q684
           obtain rfl : ad679 = ad684 := (by injection e684)
           replace hx684_0 := (HB.out.cell (World.block_lt_of_cell? w _ hx684_0)).trans hx684_0
           replace hx684_1 := (HB.out.cell (World.block_lt_of_cell? w _ hx684_1)).trans hx684_1
           replace hx684_2 := (HB.out.cell (World.block_lt_of_cell? w _ hx684_2)).trans hx684_2
           replace hx684_3 := (HB.out.cell (World.block_lt_of_cell? w _ hx684_3)).trans hx684_3
           replace hx684_4 := (HB.out.cell (World.block_lt_of_cell? w _ hx684_4)).trans hx684_4
           replace hx684_5 := (HB.out.cell (World.block_lt_of_cell? w _ hx684_5)).trans hx684_5
           replace p684 := eq_true p684
           replace q684 := eq_true q684
           have p685 : 0 ≤ (x5_1 : Int) := of_decide_eq_true z24_1
           have q685 : x5_1 < (l0.length : Int) := of_decide_eq_true z24_1
           obtain ⟨ad685, e685, hx685_0, hx685_1, hx685_2, hx685_3, hx685_4, hx685_5⟩ := at_T134 HR0.out x5_1 p685 q685
           obtain rfl : ad679 = ad685 := (by injection e685)
           replace hx685_0 := (HB.out.cell (World.block_lt_of_cell? w _ hx685_0)).trans hx685_0
           replace hx685_1 := (HB.out.cell (World.block_lt_of_cell? w _ hx685_1)).trans hx685_1
           replace hx685_2 := (HB.out.cell (World.block_lt_of_cell? w _ hx685_2)).trans hx685_2
           replace hx685_3 := (HB.out.cell (World.block_lt_of_cell? w _ hx685_3)).trans hx685_3
           replace hx685_4 := (HB.out.cell (World.block_lt_of_cell? w _ hx685_4)).trans hx685_4
           replace hx685_5 := (HB.out.cell (World.block_lt_of_cell? w _ hx685_5)).trans hx685_5
           replace p685 := eq_true p685
           replace q685 := eq_true q685
           have p686 : 0 ≤ (x5_1 : Int) := of_decide_eq_true z24_1
           have q686 : x5_1 < (l0.length : Int) := of_decide_eq_true z24_1
           obtain ⟨ad686, e686, hx686_0, hx686_1, hx686_2, hx686_3, hx686_4, hx686_5⟩ := at_T134 HR0.out x5_1 p686 q686
           obtain rfl : ad679 = ad686 := (by injection e686)
           replace hx686_0 := (HB.out.cell (World.block_lt_of_cell? w _ hx686_0)).trans hx686_0
           replace hx686_1 := (HB.out.cell (World.block_lt_of_cell? w _ hx686_1)).trans hx686_1
           replace hx686_2 := (HB.out.cell (World.block_lt_of_cell? w _ hx686_2)).trans hx686_2
           replace hx686_3 := (HB.out.cell (World.block_lt_of_cell? w _ hx686_3)).trans hx686_3
           replace hx686_4 := (HB.out.cell (World.block_lt_of_cell? w _ hx686_4)).trans hx686_4
           replace hx686_5 := (HB.out.cell (World.block_lt_of_cell? w _ hx686_5)).trans hx686_5
           replace p686 := eq_true p686
           replace q686 := eq_true q686
           try go_wp2
           go_roundg k1
           case measure => have := HK1.out; omega
           case rel => exact ⟨(wrap64 ((wrap64 ((wrap64 ((wrap64 ((wrap64 ((wrap64 (x1_1 + 1)) + 1)) + 1)) + 1)) + 1)) + 1)), (wrap64 (x5_1 + 1)), z24_7, z24_7, H', ⟨by have := HK1.out; omega⟩, ⟨z24_2⟩⟩
          ·
           rw [if_neg c12] at H
           have c12b0 : (((rd_T134 l0 x5_1).f4.f1) == (wrap64 ((wrap64 ((wrap64 ((wrap64 ((wrap64 (x1_1 + 1)) + 1)) + 1)) + 1)) + 1))) = false := beq_eq_false_iff_ne.mpr c12
           have c12b1 : (((rd_T134 l0 x5_1).f4.f1) != (wrap64 ((wrap64 ((wrap64 ((wrap64 ((wrap64 (x1_1 + 1)) + 1)) + 1)) + 1)) + 1))) = true := bne_iff_ne.mpr c12
           obtain rfl := Option.some.inj H
           have p679 : 0 ≤ (x5_1 : Int) := of_decide_eq_true z24_1
           have q679 : x5_1 < (l0.length : Int) := of_decide_eq_true z24_1
           obtain ⟨ad679, e679, hx679_0, hx679_1, hx679_2, hx679_3, hx679_4, hx679_5⟩ := at_T134 HR0.out x5_1 p679 q679
           cases e679
           replace hx679_0 := (HB.out.cell (World.block_lt_of_cell? w _ hx679_0)).trans hx679_0
           replace hx679_1 := (HB.out.cell (World.block_lt_of_cell? w _ hx679_1)).trans hx679_1
           replace hx679_2 := (HB.out.cell (World.block_lt_of_cell? w _ hx679_2)).trans hx679_2
           replace hx679_3 := (HB.out.cell (World.block_lt_of_cell? w _ hx679_3)).trans hx679_3
           replace hx679_4 := (HB.out.cell (World.block_lt_of_cell? w _ hx679_4)).trans hx679_4
           replace hx679_5 := (HB.out.cell (World.block_lt_of_cell? w _ hx679_5)).trans hx679_5
           replace p679 := eq_true p679
           replace q679 := eq_true q679
           try go_wp2
           have n0_ := Aside0.mk (below_drew1 HB.out)
           clear HB
           have HB := n0_
           clear n0_
           have p680 : 0 ≤ (x5_1 : Int) := of_decide_eq_true z24_1
           have q680 : x5_1 < (l0.length : Int) := of_decide_eq_true z24_1
           obtain ⟨ad680, e680, hx680_0, hx680_1, hx680_2, hx680_3, hx680_4, hx680_5⟩ := at_T134 HR0.out x5_1 p680 q680
           have hw680_5 := hx680_5
           have hw680_4 := hx680_4
           have hw680_3 := hx680_3
           have hw680_2 := hx680_2
           have hw680_1 := hx680_1
           have hw680_0 := hx680_0
           obtain rfl : ad679 = ad680 := (by injection e680)
           replace hx680_0 := (HB.out.cell (World.block_lt_of_cell? w _ hx680_0)).trans hx680_0
           replace hx680_1 := (HB.out.cell (World.block_lt_of_cell? w _ hx680_1)).trans hx680_1
           replace hx680_2 := (HB.out.cell (World.block_lt_of_cell? w _ hx680_2)).trans hx680_2
           replace hx680_3 := (HB.out.cell (World.block_lt_of_cell? w _ hx680_3)).trans hx680_3
           replace hx680_4 := (HB.out.cell (World.block_lt_of_cell? w _ hx680_4)).trans hx680_4
           replace hx680_5 := (HB.out.cell (World.block_lt_of_cell? w _ hx680_5)).trans hx680_5
           replace p680 := eq_true p680
           replace q680 := eq_true q680
           refine start_ (n := 8) (S := fun w' => w'.cell? (ad679.add ((x5_1).toNat * 6)) = some (.bool ((rd_T134 l0 x5_1).f0)) ∧ w'.cell? ⟨(ad679.add ((x5_1).toNat * 6)).block, (ad679.add ((x5_1).toNat * 6)).off + 1, none⟩ = some (.string ((rd_T134 l0 x5_1).f1)) ∧ w'.cell? ⟨(ad679.add ((x5_1).toNat * 6)).block, (ad679.add ((x5_1).toNat * 6)).off + 2, none⟩ = some (.string ((rd_T134 l0 x5_1).f2)) ∧ w'.cell? ⟨(ad679.add ((x5_1).toNat * 6)).block, (ad679.add ((x5_1).toNat * 6)).off + 3, none⟩ = some (.int .i64 ((rd_T134 l0 x5_1).f3)) ∧ w'.cell? ⟨(ad679.add ((x5_1).toNat * 6)).block, (ad679.add ((x5_1).toNat * 6)).off + 4, none⟩ = some (.int .i64 ((rd_T134 l0 x5_1).f4.f0)) ∧ w'.cell? ⟨(ad679.add ((x5_1).toNat * 6)).block, (ad679.add ((x5_1).toNat * 6)).off + 5, none⟩ = some (.int .i64 ((rd_T134 l0 x5_1).f4.f1))) (ds := []) #[false, false, false, false, false, false, false, false] z24_4 rfl rfl ⟨((HB.out.cell (World.block_lt_of_cell? w _ hw680_0)).trans hw680_0), ((HB.out.cell (World.block_lt_of_cell? w _ hw680_1)).trans hw680_1), ((HB.out.cell (World.block_lt_of_cell? w _ hw680_2)).trans hw680_2), ((HB.out.cell (World.block_lt_of_cell? w _ hw680_3)).trans hw680_3), ((HB.out.cell (World.block_lt_of_cell? w _ hw680_4)).trans hw680_4), ((HB.out.cell (World.block_lt_of_cell? w _ hw680_5)).trans hw680_5)⟩ (fun hHeld => ?_); refine with_tabW laws_heldLiveS.tab7 laws_heldLiveS.bits7 (fun HT_ HW_ => ?_)
           generalize wr.drew = w17 at HB hx680_0 hx680_1 hx680_2 hx680_3 hx680_4 hx680_5 hHeld ⊢
           refine pure_ (i := 0) (N := some 23) (v := ?_) (a' := ?_) #[true, false, false, false, false, false, false, false] rfl rfl (any_of HT_.out z24_4) (fun _ _ _ h => h) (Or.inl ⟨by rfl, ?_⟩) ?_ ?_
           rotate_left
           ·
            exact z24_3
           rotate_left
           ·
            exact z24_0
           refine pure_ (i := 1) (N := some 24) (v := ?_) (a' := ?_) #[true, true, false, false, false, false, false, false] rfl rfl (any_of HT_.out z24_4) (fun _ _ _ h => h) (Or.inl ⟨by rfl, ?_⟩) ?_ ?_
           rotate_left
           ·
            exact z24_3
           rotate_left
           ·
            exact z24_0
           refine pure_ (i := 2) (N := some 25) (v := ?_) (a' := ?_) #[true, true, true, false, false, false, false, false] rfl rfl (any_of HT_.out z24_4) (fun _ _ _ h => h) (Or.inl ⟨by rfl, ?_⟩) ?_ ?_
           rotate_left
           ·
            exact z24_3
           rotate_left
           ·
            exact z24_0
           refine pure_ (i := 3) (N := some 26) (v := ?_) (a' := ?_) #[true, true, true, true, false, false, false, false] rfl rfl (any_of HT_.out z24_4) (fun _ _ _ h => h) (Or.inl ⟨by rfl, ?_⟩) ?_ ?_
           rotate_left
           ·
            exact z24_3
           rotate_left
           ·
            exact z24_0
           refine pure_ (i := 5) (N := some 28) (v := ?_) (a' := ?_) #[true, true, true, true, false, true, false, false] rfl rfl (any_of HT_.out z24_4) (fun _ _ _ h => h) (Or.inl ⟨by rfl, ?_⟩) ?_ ?_
           rotate_left
           ·
            exact z24_3
           rotate_left
           ·
            exact z24_0
           refine take_ (i := 4) (N := some 27) (v := ?_) (a' := ?_) #[true, true, true, true, true, true, false, false] rfl rfl (take_ofW HT_.out HW_.out z24_4) (fun _ _ _ h => h) (Or.inl ⟨by rfl, ?_⟩) hHeld ?_ ?_
           rotate_left
           ·
            rintro w' ⟨s0, s1, s2, s3, s4, s5⟩
            go_simp
            with_reducible rfl
           rotate_left
           ·
            exact z24_0
           refine one_ (i := 6) (N := some 29) #[true, true, true, true, true, true, true, false] rfl rfl (one_of HT_.out z24_4) (by decide) (fun K hK => ?_)
           refine goes_ Try.func119 z24_4 rfl #[.int .i64 (wrap64 (x1_1 + 1))] (by rfl) rfl rfl z24_5 ?_
           with_reducible refine (laws_markText.calls k1 (wrap64 (x1_1 + 1)) t681 _ A6.out).mono ?_
           rintro e w18 ⟨rfl, hb⟩
           refine ⟨_, rfl, ?_⟩
           have n0_ := Aside0.mk (below_step z24_2 hb)
           clear HB
           have HB := n0_
           clear n0_
           (try clear hb)
           (try clear hb2)
           (try clear hk)
           (try clear hi)
           refine hK.out _ _ ⟨((HB.out.cell (World.block_lt_of_cell? w _ hw680_0)).trans hw680_0), ((HB.out.cell (World.block_lt_of_cell? w _ hw680_1)).trans hw680_1), ((HB.out.cell (World.block_lt_of_cell? w _ hw680_2)).trans hw680_2), ((HB.out.cell (World.block_lt_of_cell? w _ hw680_3)).trans hw680_3), ((HB.out.cell (World.block_lt_of_cell? w _ hw680_4)).trans hw680_4), ((HB.out.cell (World.block_lt_of_cell? w _ hw680_5)).trans hw680_5)⟩ (fun hHeld => ?_)
           clear hK K
           refine norm_ (a' := ?_) ?_ ?_
           rotate_left
           ·
            show Act.put _ (some 29) _ = _
            simp only [Act.put, List.setIfInBounds_toArray, List.set_cons_zero, List.set_cons_succ, i64_w, i32_w]
            rfl
           refine pure_ (i := 7) (N := some 30) (v := ?_) (a' := ?_) #[true, true, true, true, true, true, true, true] rfl rfl (any_of HT_.out z24_4) (fun _ _ _ h => h) (Or.inl ⟨by rfl, ?_⟩) ?_ ?_
           rotate_left
           ·
            exact z24_3
           rotate_left
           ·
            exact z24_0
           refine done_ (done_of HT_.out z24_4) ?_
           try go_wp2
           have n0_ := Aside0.mk (below_drew1 HB.out)
           clear HB
           have HB := n0_
           clear n0_
           have p682 : 0 ≤ (x5_1 : Int) := of_decide_eq_true z24_1
           have q682 : x5_1 < (l0.length : Int) := of_decide_eq_true z24_1
           obtain ⟨ad682, e682, hx682_0, hx682_1, hx682_2, hx682_3, hx682_4, hx682_5⟩ := at_T134 HR0.out x5_1 p682 q682
           have hw682_5 := hx682_5
           have hw682_4 := hx682_4
           have hw682_3 := hx682_3
           have hw682_2 := hx682_2
           have hw682_1 := hx682_1
           have hw682_0 := hx682_0
           obtain rfl : ad679 = ad682 := (by injection e682)
           replace hx682_0 := (HB.out.cell (World.block_lt_of_cell? w _ hx682_0)).trans hx682_0
           replace hx682_1 := (HB.out.cell (World.block_lt_of_cell? w _ hx682_1)).trans hx682_1
           replace hx682_2 := (HB.out.cell (World.block_lt_of_cell? w _ hx682_2)).trans hx682_2
           replace hx682_3 := (HB.out.cell (World.block_lt_of_cell? w _ hx682_3)).trans hx682_3
           replace hx682_4 := (HB.out.cell (World.block_lt_of_cell? w _ hx682_4)).trans hx682_4
           replace hx682_5 := (HB.out.cell (World.block_lt_of_cell? w _ hx682_5)).trans hx682_5
           replace p682 := eq_true p682
           replace q682 := eq_true q682
           refine start_ (n := 8) (S := fun w' => w'.cell? (ad679.add ((x5_1).toNat * 6)) = some (.bool ((rd_T134 l0 x5_1).f0)) ∧ w'.cell? ⟨(ad679.add ((x5_1).toNat * 6)).block, (ad679.add ((x5_1).toNat * 6)).off + 1, none⟩ = some (.string ((rd_T134 l0 x5_1).f1)) ∧ w'.cell? ⟨(ad679.add ((x5_1).toNat * 6)).block, (ad679.add ((x5_1).toNat * 6)).off + 2, none⟩ = some (.string ((rd_T134 l0 x5_1).f2)) ∧ w'.cell? ⟨(ad679.add ((x5_1).toNat * 6)).block, (ad679.add ((x5_1).toNat * 6)).off + 3, none⟩ = some (.int .i64 ((rd_T134 l0 x5_1).f3)) ∧ w'.cell? ⟨(ad679.add ((x5_1).toNat * 6)).block, (ad679.add ((x5_1).toNat * 6)).off + 4, none⟩ = some (.int .i64 ((rd_T134 l0 x5_1).f4.f0)) ∧ w'.cell? ⟨(ad679.add ((x5_1).toNat * 6)).block, (ad679.add ((x5_1).toNat * 6)).off + 5, none⟩ = some (.int .i64 ((rd_T134 l0 x5_1).f4.f1))) (ds := []) #[false, false, false, false, false, false, false, false] z24_4 rfl rfl ⟨((HB.out.cell (World.block_lt_of_cell? w _ hw682_0)).trans hw682_0), ((HB.out.cell (World.block_lt_of_cell? w _ hw682_1)).trans hw682_1), ((HB.out.cell (World.block_lt_of_cell? w _ hw682_2)).trans hw682_2), ((HB.out.cell (World.block_lt_of_cell? w _ hw682_3)).trans hw682_3), ((HB.out.cell (World.block_lt_of_cell? w _ hw682_4)).trans hw682_4), ((HB.out.cell (World.block_lt_of_cell? w _ hw682_5)).trans hw682_5)⟩ (fun hHeld => ?_); refine with_tabW laws_heldLiveS.tab10 laws_heldLiveS.bits10 (fun HT_ HW_ => ?_)
           generalize w18.drew = w19 at HB hx682_0 hx682_1 hx682_2 hx682_3 hx682_4 hx682_5 hHeld ⊢
           refine pure_ (i := 0) (N := some 33) (v := ?_) (a' := ?_) #[true, false, false, false, false, false, false, false] rfl rfl (any_of HT_.out z24_4) (fun _ _ _ h => h) (Or.inl ⟨by rfl, ?_⟩) ?_ ?_
           rotate_left
           ·
            exact z24_3
           rotate_left
           ·
            exact z24_0
           refine pure_ (i := 1) (N := some 34) (v := ?_) (a' := ?_) #[true, true, false, false, false, false, false, false] rfl rfl (any_of HT_.out z24_4) (fun _ _ _ h => h) (Or.inl ⟨by rfl, ?_⟩) ?_ ?_
           rotate_left
           ·
            exact z24_3
           rotate_left
           ·
            exact z24_0
           refine pure_ (i := 2) (N := some 35) (v := ?_) (a' := ?_) #[true, true, true, false, false, false, false, false] rfl rfl (any_of HT_.out z24_4) (fun _ _ _ h => h) (Or.inl ⟨by rfl, ?_⟩) ?_ ?_
           rotate_left
           ·
            exact z24_3
           rotate_left
           ·
            exact z24_0
           refine pure_ (i := 3) (N := some 36) (v := ?_) (a' := ?_) #[true, true, true, true, false, false, false, false] rfl rfl (any_of HT_.out z24_4) (fun _ _ _ h => h) (Or.inl ⟨by rfl, ?_⟩) ?_ ?_
           rotate_left
           ·
            exact z24_3
           rotate_left
           ·
            exact z24_0
           refine pure_ (i := 5) (N := some 38) (v := ?_) (a' := ?_) #[true, true, true, true, false, true, false, false] rfl rfl (any_of HT_.out z24_4) (fun _ _ _ h => h) (Or.inl ⟨by rfl, ?_⟩) ?_ ?_
           rotate_left
           ·
            exact z24_3
           rotate_left
           ·
            exact z24_0
           refine take_ (i := 4) (N := some 37) (v := ?_) (a' := ?_) #[true, true, true, true, true, true, false, false] rfl rfl (take_ofW HT_.out HW_.out z24_4) (fun _ _ _ h => h) (Or.inl ⟨by rfl, ?_⟩) hHeld ?_ ?_
           rotate_left
           ·
            rintro w' ⟨s0, s1, s2, s3, s4, s5⟩
            go_simp
            with_reducible rfl
           rotate_left
           ·
            exact z24_0
           refine one_ (i := 6) (N := some 39) #[true, true, true, true, true, true, true, false] rfl rfl (one_of HT_.out z24_4) (by decide) (fun K hK => ?_)
           refine goes_ Try.func119 z24_4 rfl #[.int .i64 (wrap64 ((wrap64 (x1_1 + 1)) + 1))] (by rfl) rfl rfl z24_5 ?_
           with_reducible refine (laws_markText.calls k1 (wrap64 ((wrap64 (x1_1 + 1)) + 1)) t683 _ A8.out).mono ?_
           rintro e w20 ⟨rfl, hb⟩
           refine ⟨_, rfl, ?_⟩
           have n0_ := Aside0.mk (below_step z24_2 hb)
           clear HB
           have HB := n0_
           clear n0_
           (try clear hb)
           (try clear hb2)
           (try clear hk)
           (try clear hi)
           refine hK.out _ _ ⟨((HB.out.cell (World.block_lt_of_cell? w _ hw682_0)).trans hw682_0), ((HB.out.cell (World.block_lt_of_cell? w _ hw682_1)).trans hw682_1), ((HB.out.cell (World.block_lt_of_cell? w _ hw682_2)).trans hw682_2), ((HB.out.cell (World.block_lt_of_cell? w _ hw682_3)).trans hw682_3), ((HB.out.cell (World.block_lt_of_cell? w _ hw682_4)).trans hw682_4), ((HB.out.cell (World.block_lt_of_cell? w _ hw682_5)).trans hw682_5)⟩ (fun hHeld => ?_)
           clear hK K
           refine norm_ (a' := ?_) ?_ ?_
           rotate_left
           ·
            show Act.put _ (some 39) _ = _
            simp only [Act.put, List.setIfInBounds_toArray, List.set_cons_zero, List.set_cons_succ, i64_w, i32_w]
            rfl
           refine pure_ (i := 7) (N := some 40) (v := ?_) (a' := ?_) #[true, true, true, true, true, true, true, true] rfl rfl (any_of HT_.out z24_4) (fun _ _ _ h => h) (Or.inl ⟨by rfl, ?_⟩) ?_ ?_
           rotate_left
           ·
            exact z24_3
           rotate_left
           ·
            exact z24_0
           refine done_ (done_of HT_.out z24_4) ?_
           have p684 : 0 ≤ (x5_1 : Int) := of_decide_eq_true z24_1
           have q684 : x5_1 < (l0.length : Int) := of_decide_eq_true z24_1
           obtain ⟨ad684, e684, hx684_0, hx684_1, hx684_2, hx684_3, hx684_4, hx684_5⟩ := at_T134 HR0.out x5_1 p684 q684
           obtain rfl : ad679 = ad684 := (by injection e684)
           replace hx684_0 := (HB.out.cell (World.block_lt_of_cell? w _ hx684_0)).trans hx684_0
           replace hx684_1 := (HB.out.cell (World.block_lt_of_cell? w _ hx684_1)).trans hx684_1
           replace hx684_2 := (HB.out.cell (World.block_lt_of_cell? w _ hx684_2)).trans hx684_2
           replace hx684_3 := (HB.out.cell (World.block_lt_of_cell? w _ hx684_3)).trans hx684_3
           replace hx684_4 := (HB.out.cell (World.block_lt_of_cell? w _ hx684_4)).trans hx684_4
           replace hx684_5 := (HB.out.cell (World.block_lt_of_cell? w _ hx684_5)).trans hx684_5
           replace p684 := eq_true p684
           replace q684 := eq_true q684
           have p685 : 0 ≤ (x5_1 : Int) := of_decide_eq_true z24_1
           have q685 : x5_1 < (l0.length : Int) := of_decide_eq_true z24_1
           obtain ⟨ad685, e685, hx685_0, hx685_1, hx685_2, hx685_3, hx685_4, hx685_5⟩ := at_T134 HR0.out x5_1 p685 q685
           obtain rfl : ad679 = ad685 := (by injection e685)
           replace hx685_0 := (HB.out.cell (World.block_lt_of_cell? w _ hx685_0)).trans hx685_0
           replace hx685_1 := (HB.out.cell (World.block_lt_of_cell? w _ hx685_1)).trans hx685_1
           replace hx685_2 := (HB.out.cell (World.block_lt_of_cell? w _ hx685_2)).trans hx685_2
           replace hx685_3 := (HB.out.cell (World.block_lt_of_cell? w _ hx685_3)).trans hx685_3
           replace hx685_4 := (HB.out.cell (World.block_lt_of_cell? w _ hx685_4)).trans hx685_4
           replace hx685_5 := (HB.out.cell (World.block_lt_of_cell? w _ hx685_5)).trans hx685_5
           replace p685 := eq_true p685
           replace q685 := eq_true q685
           have p686 : 0 ≤ (x5_1 : Int) := of_decide_eq_true z24_1
           have q686 : x5_1 < (l0.length : Int) := of_decide_eq_true z24_1
           obtain ⟨ad686, e686, hx686_0, hx686_1, hx686_2, hx686_3, hx686_4, hx686_5⟩ := at_T134 HR0.out x5_1 p686 q686
           obtain rfl : ad679 = ad686 := (by injection e686)
           replace hx686_0 := (HB.out.cell (World.block_lt_of_cell? w _ hx686_0)).trans hx686_0
           replace hx686_1 := (HB.out.cell (World.block_lt_of_cell? w _ hx686_1)).trans hx686_1
           replace hx686_2 := (HB.out.cell (World.block_lt_of_cell? w _ hx686_2)).trans hx686_2
           replace hx686_3 := (HB.out.cell (World.block_lt_of_cell? w _ hx686_3)).trans hx686_3
           replace hx686_4 := (HB.out.cell (World.block_lt_of_cell? w _ hx686_4)).trans hx686_4
           replace hx686_5 := (HB.out.cell (World.block_lt_of_cell? w _ hx686_5)).trans hx686_5
           replace p686 := eq_true p686
           replace q686 := eq_true q686
           try go_wp2
           go_ret
           exact ⟨z24_6, z24_2⟩
         ·
          rw [if_neg c11] at H
          have c11b0 : (((rd_T134 l0 x5_1).f4.f0) == (wrap64 ((wrap64 ((wrap64 ((wrap64 (x1_1 + 1)) + 1)) + 1)) + 1))) = false := beq_eq_false_iff_ne.mpr c11
          have c11b1 : (((rd_T134 l0 x5_1).f4.f0) != (wrap64 ((wrap64 ((wrap64 ((wrap64 (x1_1 + 1)) + 1)) + 1)) + 1))) = true := bne_iff_ne.mpr c11
          obtain rfl := Option.some.inj H
          have p679 : 0 ≤ (x5_1 : Int) := of_decide_eq_true z24_1
          have q679 : x5_1 < (l0.length : Int) := of_decide_eq_true z24_1
          obtain ⟨ad679, e679, hx679_0, hx679_1, hx679_2, hx679_3, hx679_4, hx679_5⟩ := at_T134 HR0.out x5_1 p679 q679
          cases e679
          replace hx679_0 := (HB.out.cell (World.block_lt_of_cell? w _ hx679_0)).trans hx679_0
          replace hx679_1 := (HB.out.cell (World.block_lt_of_cell? w _ hx679_1)).trans hx679_1
          replace hx679_2 := (HB.out.cell (World.block_lt_of_cell? w _ hx679_2)).trans hx679_2
          replace hx679_3 := (HB.out.cell (World.block_lt_of_cell? w _ hx679_3)).trans hx679_3
          replace hx679_4 := (HB.out.cell (World.block_lt_of_cell? w _ hx679_4)).trans hx679_4
          replace hx679_5 := (HB.out.cell (World.block_lt_of_cell? w _ hx679_5)).trans hx679_5
          replace p679 := eq_true p679
          replace q679 := eq_true q679
          try go_wp2
          have n0_ := Aside0.mk (below_drew1 HB.out)
          clear HB
          have HB := n0_
          clear n0_
          have p680 : 0 ≤ (x5_1 : Int) := of_decide_eq_true z24_1
          have q680 : x5_1 < (l0.length : Int) := of_decide_eq_true z24_1
          obtain ⟨ad680, e680, hx680_0, hx680_1, hx680_2, hx680_3, hx680_4, hx680_5⟩ := at_T134 HR0.out x5_1 p680 q680
          have hw680_5 := hx680_5
          have hw680_4 := hx680_4
          have hw680_3 := hx680_3
          have hw680_2 := hx680_2
          have hw680_1 := hx680_1
          have hw680_0 := hx680_0
          obtain rfl : ad679 = ad680 := (by injection e680)
          replace hx680_0 := (HB.out.cell (World.block_lt_of_cell? w _ hx680_0)).trans hx680_0
          replace hx680_1 := (HB.out.cell (World.block_lt_of_cell? w _ hx680_1)).trans hx680_1
          replace hx680_2 := (HB.out.cell (World.block_lt_of_cell? w _ hx680_2)).trans hx680_2
          replace hx680_3 := (HB.out.cell (World.block_lt_of_cell? w _ hx680_3)).trans hx680_3
          replace hx680_4 := (HB.out.cell (World.block_lt_of_cell? w _ hx680_4)).trans hx680_4
          replace hx680_5 := (HB.out.cell (World.block_lt_of_cell? w _ hx680_5)).trans hx680_5
          replace p680 := eq_true p680
          replace q680 := eq_true q680
          refine start_ (n := 8) (S := fun w' => w'.cell? (ad679.add ((x5_1).toNat * 6)) = some (.bool ((rd_T134 l0 x5_1).f0)) ∧ w'.cell? ⟨(ad679.add ((x5_1).toNat * 6)).block, (ad679.add ((x5_1).toNat * 6)).off + 1, none⟩ = some (.string ((rd_T134 l0 x5_1).f1)) ∧ w'.cell? ⟨(ad679.add ((x5_1).toNat * 6)).block, (ad679.add ((x5_1).toNat * 6)).off + 2, none⟩ = some (.string ((rd_T134 l0 x5_1).f2)) ∧ w'.cell? ⟨(ad679.add ((x5_1).toNat * 6)).block, (ad679.add ((x5_1).toNat * 6)).off + 3, none⟩ = some (.int .i64 ((rd_T134 l0 x5_1).f3)) ∧ w'.cell? ⟨(ad679.add ((x5_1).toNat * 6)).block, (ad679.add ((x5_1).toNat * 6)).off + 4, none⟩ = some (.int .i64 ((rd_T134 l0 x5_1).f4.f0)) ∧ w'.cell? ⟨(ad679.add ((x5_1).toNat * 6)).block, (ad679.add ((x5_1).toNat * 6)).off + 5, none⟩ = some (.int .i64 ((rd_T134 l0 x5_1).f4.f1))) (ds := []) #[false, false, false, false, false, false, false, false] z24_4 rfl rfl ⟨((HB.out.cell (World.block_lt_of_cell? w _ hw680_0)).trans hw680_0), ((HB.out.cell (World.block_lt_of_cell? w _ hw680_1)).trans hw680_1), ((HB.out.cell (World.block_lt_of_cell? w _ hw680_2)).trans hw680_2), ((HB.out.cell (World.block_lt_of_cell? w _ hw680_3)).trans hw680_3), ((HB.out.cell (World.block_lt_of_cell? w _ hw680_4)).trans hw680_4), ((HB.out.cell (World.block_lt_of_cell? w _ hw680_5)).trans hw680_5)⟩ (fun hHeld => ?_); refine with_tabW laws_heldLiveS.tab7 laws_heldLiveS.bits7 (fun HT_ HW_ => ?_)
          generalize wr.drew = w21 at HB hx680_0 hx680_1 hx680_2 hx680_3 hx680_4 hx680_5 hHeld ⊢
          refine pure_ (i := 0) (N := some 23) (v := ?_) (a' := ?_) #[true, false, false, false, false, false, false, false] rfl rfl (any_of HT_.out z24_4) (fun _ _ _ h => h) (Or.inl ⟨by rfl, ?_⟩) ?_ ?_
          rotate_left
          ·
           exact z24_3
          rotate_left
          ·
           exact z24_0
          refine pure_ (i := 1) (N := some 24) (v := ?_) (a' := ?_) #[true, true, false, false, false, false, false, false] rfl rfl (any_of HT_.out z24_4) (fun _ _ _ h => h) (Or.inl ⟨by rfl, ?_⟩) ?_ ?_
          rotate_left
          ·
           exact z24_3
          rotate_left
          ·
           exact z24_0
          refine pure_ (i := 2) (N := some 25) (v := ?_) (a' := ?_) #[true, true, true, false, false, false, false, false] rfl rfl (any_of HT_.out z24_4) (fun _ _ _ h => h) (Or.inl ⟨by rfl, ?_⟩) ?_ ?_
          rotate_left
          ·
           exact z24_3
          rotate_left
          ·
           exact z24_0
          refine pure_ (i := 3) (N := some 26) (v := ?_) (a' := ?_) #[true, true, true, true, false, false, false, false] rfl rfl (any_of HT_.out z24_4) (fun _ _ _ h => h) (Or.inl ⟨by rfl, ?_⟩) ?_ ?_
          rotate_left
          ·
           exact z24_3
          rotate_left
          ·
           exact z24_0
          refine pure_ (i := 5) (N := some 28) (v := ?_) (a' := ?_) #[true, true, true, true, false, true, false, false] rfl rfl (any_of HT_.out z24_4) (fun _ _ _ h => h) (Or.inl ⟨by rfl, ?_⟩) ?_ ?_
          rotate_left
          ·
           exact z24_3
          rotate_left
          ·
           exact z24_0
          refine take_ (i := 4) (N := some 27) (v := ?_) (a' := ?_) #[true, true, true, true, true, true, false, false] rfl rfl (take_ofW HT_.out HW_.out z24_4) (fun _ _ _ h => h) (Or.inl ⟨by rfl, ?_⟩) hHeld ?_ ?_
          rotate_left
          ·
           rintro w' ⟨s0, s1, s2, s3, s4, s5⟩
           go_simp
           with_reducible rfl
          rotate_left
          ·
           exact z24_0
          refine one_ (i := 6) (N := some 29) #[true, true, true, true, true, true, true, false] rfl rfl (one_of HT_.out z24_4) (by decide) (fun K hK => ?_)
          refine goes_ Try.func119 z24_4 rfl #[.int .i64 (wrap64 (x1_1 + 1))] (by rfl) rfl rfl z24_5 ?_
          with_reducible refine (laws_markText.calls k1 (wrap64 (x1_1 + 1)) t681 _ A6.out).mono ?_
          rintro e w22 ⟨rfl, hb⟩
          refine ⟨_, rfl, ?_⟩
          have n0_ := Aside0.mk (below_step z24_2 hb)
          clear HB
          have HB := n0_
          clear n0_
          (try clear hb)
          (try clear hb2)
          (try clear hk)
          (try clear hi)
          refine hK.out _ _ ⟨((HB.out.cell (World.block_lt_of_cell? w _ hw680_0)).trans hw680_0), ((HB.out.cell (World.block_lt_of_cell? w _ hw680_1)).trans hw680_1), ((HB.out.cell (World.block_lt_of_cell? w _ hw680_2)).trans hw680_2), ((HB.out.cell (World.block_lt_of_cell? w _ hw680_3)).trans hw680_3), ((HB.out.cell (World.block_lt_of_cell? w _ hw680_4)).trans hw680_4), ((HB.out.cell (World.block_lt_of_cell? w _ hw680_5)).trans hw680_5)⟩ (fun hHeld => ?_)
          clear hK K
          refine norm_ (a' := ?_) ?_ ?_
          rotate_left
          ·
           show Act.put _ (some 29) _ = _
           simp only [Act.put, List.setIfInBounds_toArray, List.set_cons_zero, List.set_cons_succ, i64_w, i32_w]
           rfl
          refine pure_ (i := 7) (N := some 30) (v := ?_) (a' := ?_) #[true, true, true, true, true, true, true, true] rfl rfl (any_of HT_.out z24_4) (fun _ _ _ h => h) (Or.inl ⟨by rfl, ?_⟩) ?_ ?_
          rotate_left
          ·
           exact z24_3
          rotate_left
          ·
           exact z24_0
          refine done_ (done_of HT_.out z24_4) ?_
          try go_wp2
          have n0_ := Aside0.mk (below_drew1 HB.out)
          clear HB
          have HB := n0_
          clear n0_
          have p682 : 0 ≤ (x5_1 : Int) := of_decide_eq_true z24_1
          have q682 : x5_1 < (l0.length : Int) := of_decide_eq_true z24_1
          obtain ⟨ad682, e682, hx682_0, hx682_1, hx682_2, hx682_3, hx682_4, hx682_5⟩ := at_T134 HR0.out x5_1 p682 q682
          have hw682_5 := hx682_5
          have hw682_4 := hx682_4
          have hw682_3 := hx682_3
          have hw682_2 := hx682_2
          have hw682_1 := hx682_1
          have hw682_0 := hx682_0
          obtain rfl : ad679 = ad682 := (by injection e682)
          replace hx682_0 := (HB.out.cell (World.block_lt_of_cell? w _ hx682_0)).trans hx682_0
          replace hx682_1 := (HB.out.cell (World.block_lt_of_cell? w _ hx682_1)).trans hx682_1
          replace hx682_2 := (HB.out.cell (World.block_lt_of_cell? w _ hx682_2)).trans hx682_2
          replace hx682_3 := (HB.out.cell (World.block_lt_of_cell? w _ hx682_3)).trans hx682_3
          replace hx682_4 := (HB.out.cell (World.block_lt_of_cell? w _ hx682_4)).trans hx682_4
          replace hx682_5 := (HB.out.cell (World.block_lt_of_cell? w _ hx682_5)).trans hx682_5
          replace p682 := eq_true p682
          replace q682 := eq_true q682
          refine start_ (n := 8) (S := fun w' => w'.cell? (ad679.add ((x5_1).toNat * 6)) = some (.bool ((rd_T134 l0 x5_1).f0)) ∧ w'.cell? ⟨(ad679.add ((x5_1).toNat * 6)).block, (ad679.add ((x5_1).toNat * 6)).off + 1, none⟩ = some (.string ((rd_T134 l0 x5_1).f1)) ∧ w'.cell? ⟨(ad679.add ((x5_1).toNat * 6)).block, (ad679.add ((x5_1).toNat * 6)).off + 2, none⟩ = some (.string ((rd_T134 l0 x5_1).f2)) ∧ w'.cell? ⟨(ad679.add ((x5_1).toNat * 6)).block, (ad679.add ((x5_1).toNat * 6)).off + 3, none⟩ = some (.int .i64 ((rd_T134 l0 x5_1).f3)) ∧ w'.cell? ⟨(ad679.add ((x5_1).toNat * 6)).block, (ad679.add ((x5_1).toNat * 6)).off + 4, none⟩ = some (.int .i64 ((rd_T134 l0 x5_1).f4.f0)) ∧ w'.cell? ⟨(ad679.add ((x5_1).toNat * 6)).block, (ad679.add ((x5_1).toNat * 6)).off + 5, none⟩ = some (.int .i64 ((rd_T134 l0 x5_1).f4.f1))) (ds := []) #[false, false, false, false, false, false, false, false] z24_4 rfl rfl ⟨((HB.out.cell (World.block_lt_of_cell? w _ hw682_0)).trans hw682_0), ((HB.out.cell (World.block_lt_of_cell? w _ hw682_1)).trans hw682_1), ((HB.out.cell (World.block_lt_of_cell? w _ hw682_2)).trans hw682_2), ((HB.out.cell (World.block_lt_of_cell? w _ hw682_3)).trans hw682_3), ((HB.out.cell (World.block_lt_of_cell? w _ hw682_4)).trans hw682_4), ((HB.out.cell (World.block_lt_of_cell? w _ hw682_5)).trans hw682_5)⟩ (fun hHeld => ?_); refine with_tabW laws_heldLiveS.tab10 laws_heldLiveS.bits10 (fun HT_ HW_ => ?_)
          generalize w22.drew = w23 at HB hx682_0 hx682_1 hx682_2 hx682_3 hx682_4 hx682_5 hHeld ⊢
          refine pure_ (i := 0) (N := some 33) (v := ?_) (a' := ?_) #[true, false, false, false, false, false, false, false] rfl rfl (any_of HT_.out z24_4) (fun _ _ _ h => h) (Or.inl ⟨by rfl, ?_⟩) ?_ ?_
          rotate_left
          ·
           exact z24_3
          rotate_left
          ·
           exact z24_0
          refine pure_ (i := 1) (N := some 34) (v := ?_) (a' := ?_) #[true, true, false, false, false, false, false, false] rfl rfl (any_of HT_.out z24_4) (fun _ _ _ h => h) (Or.inl ⟨by rfl, ?_⟩) ?_ ?_
          rotate_left
          ·
           exact z24_3
          rotate_left
          ·
           exact z24_0
          refine pure_ (i := 2) (N := some 35) (v := ?_) (a' := ?_) #[true, true, true, false, false, false, false, false] rfl rfl (any_of HT_.out z24_4) (fun _ _ _ h => h) (Or.inl ⟨by rfl, ?_⟩) ?_ ?_
          rotate_left
          ·
           exact z24_3
          rotate_left
          ·
           exact z24_0
          refine pure_ (i := 3) (N := some 36) (v := ?_) (a' := ?_) #[true, true, true, true, false, false, false, false] rfl rfl (any_of HT_.out z24_4) (fun _ _ _ h => h) (Or.inl ⟨by rfl, ?_⟩) ?_ ?_
          rotate_left
          ·
           exact z24_3
          rotate_left
          ·
           exact z24_0
          refine pure_ (i := 5) (N := some 38) (v := ?_) (a' := ?_) #[true, true, true, true, false, true, false, false] rfl rfl (any_of HT_.out z24_4) (fun _ _ _ h => h) (Or.inl ⟨by rfl, ?_⟩) ?_ ?_
          rotate_left
          ·
           exact z24_3
          rotate_left
          ·
           exact z24_0
          refine take_ (i := 4) (N := some 37) (v := ?_) (a' := ?_) #[true, true, true, true, true, true, false, false] rfl rfl (take_ofW HT_.out HW_.out z24_4) (fun _ _ _ h => h) (Or.inl ⟨by rfl, ?_⟩) hHeld ?_ ?_
          rotate_left
          ·
           rintro w' ⟨s0, s1, s2, s3, s4, s5⟩
           go_simp
           with_reducible rfl
          rotate_left
          ·
           exact z24_0
          refine one_ (i := 6) (N := some 39) #[true, true, true, true, true, true, true, false] rfl rfl (one_of HT_.out z24_4) (by decide) (fun K hK => ?_)
          refine goes_ Try.func119 z24_4 rfl #[.int .i64 (wrap64 ((wrap64 (x1_1 + 1)) + 1))] (by rfl) rfl rfl z24_5 ?_
          with_reducible refine (laws_markText.calls k1 (wrap64 ((wrap64 (x1_1 + 1)) + 1)) t683 _ A8.out).mono ?_
          rintro e w24 ⟨rfl, hb⟩
          refine ⟨_, rfl, ?_⟩
          have n0_ := Aside0.mk (below_step z24_2 hb)
          clear HB
          have HB := n0_
          clear n0_
          (try clear hb)
          (try clear hb2)
          (try clear hk)
          (try clear hi)
          refine hK.out _ _ ⟨((HB.out.cell (World.block_lt_of_cell? w _ hw682_0)).trans hw682_0), ((HB.out.cell (World.block_lt_of_cell? w _ hw682_1)).trans hw682_1), ((HB.out.cell (World.block_lt_of_cell? w _ hw682_2)).trans hw682_2), ((HB.out.cell (World.block_lt_of_cell? w _ hw682_3)).trans hw682_3), ((HB.out.cell (World.block_lt_of_cell? w _ hw682_4)).trans hw682_4), ((HB.out.cell (World.block_lt_of_cell? w _ hw682_5)).trans hw682_5)⟩ (fun hHeld => ?_)
          clear hK K
          refine norm_ (a' := ?_) ?_ ?_
          rotate_left
          ·
           show Act.put _ (some 39) _ = _
           simp only [Act.put, List.setIfInBounds_toArray, List.set_cons_zero, List.set_cons_succ, i64_w, i32_w]
           rfl
          refine pure_ (i := 7) (N := some 40) (v := ?_) (a' := ?_) #[true, true, true, true, true, true, true, true] rfl rfl (any_of HT_.out z24_4) (fun _ _ _ h => h) (Or.inl ⟨by rfl, ?_⟩) ?_ ?_
          rotate_left
          ·
           exact z24_3
          rotate_left
          ·
           exact z24_0
          refine done_ (done_of HT_.out z24_4) ?_
          have p684 : 0 ≤ (x5_1 : Int) := of_decide_eq_true z24_1
          have q684 : x5_1 < (l0.length : Int) := of_decide_eq_true z24_1
          obtain ⟨ad684, e684, hx684_0, hx684_1, hx684_2, hx684_3, hx684_4, hx684_5⟩ := at_T134 HR0.out x5_1 p684 q684
          obtain rfl : ad679 = ad684 := (by injection e684)
          replace hx684_0 := (HB.out.cell (World.block_lt_of_cell? w _ hx684_0)).trans hx684_0
          replace hx684_1 := (HB.out.cell (World.block_lt_of_cell? w _ hx684_1)).trans hx684_1
          replace hx684_2 := (HB.out.cell (World.block_lt_of_cell? w _ hx684_2)).trans hx684_2
          replace hx684_3 := (HB.out.cell (World.block_lt_of_cell? w _ hx684_3)).trans hx684_3
          replace hx684_4 := (HB.out.cell (World.block_lt_of_cell? w _ hx684_4)).trans hx684_4
          replace hx684_5 := (HB.out.cell (World.block_lt_of_cell? w _ hx684_5)).trans hx684_5
          replace p684 := eq_true p684
          replace q684 := eq_true q684
          have p685 : 0 ≤ (x5_1 : Int) := of_decide_eq_true z24_1
          have q685 : x5_1 < (l0.length : Int) := of_decide_eq_true z24_1
          obtain ⟨ad685, e685, hx685_0, hx685_1, hx685_2, hx685_3, hx685_4, hx685_5⟩ := at_T134 HR0.out x5_1 p685 q685
          obtain rfl : ad679 = ad685 := (by injection e685)
          replace hx685_0 := (HB.out.cell (World.block_lt_of_cell? w _ hx685_0)).trans hx685_0
          replace hx685_1 := (HB.out.cell (World.block_lt_of_cell? w _ hx685_1)).trans hx685_1
          replace hx685_2 := (HB.out.cell (World.block_lt_of_cell? w _ hx685_2)).trans hx685_2
          replace hx685_3 := (HB.out.cell (World.block_lt_of_cell? w _ hx685_3)).trans hx685_3
          replace hx685_4 := (HB.out.cell (World.block_lt_of_cell? w _ hx685_4)).trans hx685_4
          replace hx685_5 := (HB.out.cell (World.block_lt_of_cell? w _ hx685_5)).trans hx685_5
          replace p685 := eq_true p685
          replace q685 := eq_true q685
          try go_wp2
          go_ret
          exact ⟨z24_6, z24_2⟩
        ·
         rw [if_neg c10] at H
         have c10b0 : (((rd_T134 l0 x5_1).f3) == (wrap64 ((wrap64 ((wrap64 (x1_1 + 1)) + 1)) + 1))) = false := beq_eq_false_iff_ne.mpr c10
         have c10b1 : (((rd_T134 l0 x5_1).f3) != (wrap64 ((wrap64 ((wrap64 (x1_1 + 1)) + 1)) + 1))) = true := bne_iff_ne.mpr c10
         obtain rfl := Option.some.inj H
         have p679 : 0 ≤ (x5_1 : Int) := of_decide_eq_true z24_1
         have q679 : x5_1 < (l0.length : Int) := of_decide_eq_true z24_1
         obtain ⟨ad679, e679, hx679_0, hx679_1, hx679_2, hx679_3, hx679_4, hx679_5⟩ := at_T134 HR0.out x5_1 p679 q679
         cases e679
         replace hx679_0 := (HB.out.cell (World.block_lt_of_cell? w _ hx679_0)).trans hx679_0
         replace hx679_1 := (HB.out.cell (World.block_lt_of_cell? w _ hx679_1)).trans hx679_1
         replace hx679_2 := (HB.out.cell (World.block_lt_of_cell? w _ hx679_2)).trans hx679_2
         replace hx679_3 := (HB.out.cell (World.block_lt_of_cell? w _ hx679_3)).trans hx679_3
         replace hx679_4 := (HB.out.cell (World.block_lt_of_cell? w _ hx679_4)).trans hx679_4
         replace hx679_5 := (HB.out.cell (World.block_lt_of_cell? w _ hx679_5)).trans hx679_5
         replace p679 := eq_true p679
         replace q679 := eq_true q679
         try go_wp2
         have n0_ := Aside0.mk (below_drew1 HB.out)
         clear HB
         have HB := n0_
         clear n0_
         have p680 : 0 ≤ (x5_1 : Int) := of_decide_eq_true z24_1
         have q680 : x5_1 < (l0.length : Int) := of_decide_eq_true z24_1
         obtain ⟨ad680, e680, hx680_0, hx680_1, hx680_2, hx680_3, hx680_4, hx680_5⟩ := at_T134 HR0.out x5_1 p680 q680
         have hw680_5 := hx680_5
         have hw680_4 := hx680_4
         have hw680_3 := hx680_3
         have hw680_2 := hx680_2
         have hw680_1 := hx680_1
         have hw680_0 := hx680_0
         obtain rfl : ad679 = ad680 := (by injection e680)
         replace hx680_0 := (HB.out.cell (World.block_lt_of_cell? w _ hx680_0)).trans hx680_0
         replace hx680_1 := (HB.out.cell (World.block_lt_of_cell? w _ hx680_1)).trans hx680_1
         replace hx680_2 := (HB.out.cell (World.block_lt_of_cell? w _ hx680_2)).trans hx680_2
         replace hx680_3 := (HB.out.cell (World.block_lt_of_cell? w _ hx680_3)).trans hx680_3
         replace hx680_4 := (HB.out.cell (World.block_lt_of_cell? w _ hx680_4)).trans hx680_4
         replace hx680_5 := (HB.out.cell (World.block_lt_of_cell? w _ hx680_5)).trans hx680_5
         replace p680 := eq_true p680
         replace q680 := eq_true q680
         refine start_ (n := 8) (S := fun w' => w'.cell? (ad679.add ((x5_1).toNat * 6)) = some (.bool ((rd_T134 l0 x5_1).f0)) ∧ w'.cell? ⟨(ad679.add ((x5_1).toNat * 6)).block, (ad679.add ((x5_1).toNat * 6)).off + 1, none⟩ = some (.string ((rd_T134 l0 x5_1).f1)) ∧ w'.cell? ⟨(ad679.add ((x5_1).toNat * 6)).block, (ad679.add ((x5_1).toNat * 6)).off + 2, none⟩ = some (.string ((rd_T134 l0 x5_1).f2)) ∧ w'.cell? ⟨(ad679.add ((x5_1).toNat * 6)).block, (ad679.add ((x5_1).toNat * 6)).off + 3, none⟩ = some (.int .i64 ((rd_T134 l0 x5_1).f3)) ∧ w'.cell? ⟨(ad679.add ((x5_1).toNat * 6)).block, (ad679.add ((x5_1).toNat * 6)).off + 4, none⟩ = some (.int .i64 ((rd_T134 l0 x5_1).f4.f0)) ∧ w'.cell? ⟨(ad679.add ((x5_1).toNat * 6)).block, (ad679.add ((x5_1).toNat * 6)).off + 5, none⟩ = some (.int .i64 ((rd_T134 l0 x5_1).f4.f1))) (ds := []) #[false, false, false, false, false, false, false, false] z24_4 rfl rfl ⟨((HB.out.cell (World.block_lt_of_cell? w _ hw680_0)).trans hw680_0), ((HB.out.cell (World.block_lt_of_cell? w _ hw680_1)).trans hw680_1), ((HB.out.cell (World.block_lt_of_cell? w _ hw680_2)).trans hw680_2), ((HB.out.cell (World.block_lt_of_cell? w _ hw680_3)).trans hw680_3), ((HB.out.cell (World.block_lt_of_cell? w _ hw680_4)).trans hw680_4), ((HB.out.cell (World.block_lt_of_cell? w _ hw680_5)).trans hw680_5)⟩ (fun hHeld => ?_); refine with_tabW laws_heldLiveS.tab7 laws_heldLiveS.bits7 (fun HT_ HW_ => ?_)
         generalize wr.drew = w25 at HB hx680_0 hx680_1 hx680_2 hx680_3 hx680_4 hx680_5 hHeld ⊢
         refine pure_ (i := 0) (N := some 23) (v := ?_) (a' := ?_) #[true, false, false, false, false, false, false, false] rfl rfl (any_of HT_.out z24_4) (fun _ _ _ h => h) (Or.inl ⟨by rfl, ?_⟩) ?_ ?_
         rotate_left
         ·
          exact z24_3
         rotate_left
         ·
          exact z24_0
         refine pure_ (i := 1) (N := some 24) (v := ?_) (a' := ?_) #[true, true, false, false, false, false, false, false] rfl rfl (any_of HT_.out z24_4) (fun _ _ _ h => h) (Or.inl ⟨by rfl, ?_⟩) ?_ ?_
         rotate_left
         ·
          exact z24_3
         rotate_left
         ·
          exact z24_0
         refine pure_ (i := 2) (N := some 25) (v := ?_) (a' := ?_) #[true, true, true, false, false, false, false, false] rfl rfl (any_of HT_.out z24_4) (fun _ _ _ h => h) (Or.inl ⟨by rfl, ?_⟩) ?_ ?_
         rotate_left
         ·
          exact z24_3
         rotate_left
         ·
          exact z24_0
         refine pure_ (i := 3) (N := some 26) (v := ?_) (a' := ?_) #[true, true, true, true, false, false, false, false] rfl rfl (any_of HT_.out z24_4) (fun _ _ _ h => h) (Or.inl ⟨by rfl, ?_⟩) ?_ ?_
         rotate_left
         ·
          exact z24_3
         rotate_left
         ·
          exact z24_0
         refine pure_ (i := 5) (N := some 28) (v := ?_) (a' := ?_) #[true, true, true, true, false, true, false, false] rfl rfl (any_of HT_.out z24_4) (fun _ _ _ h => h) (Or.inl ⟨by rfl, ?_⟩) ?_ ?_
         rotate_left
         ·
          exact z24_3
         rotate_left
         ·
          exact z24_0
         refine take_ (i := 4) (N := some 27) (v := ?_) (a' := ?_) #[true, true, true, true, true, true, false, false] rfl rfl (take_ofW HT_.out HW_.out z24_4) (fun _ _ _ h => h) (Or.inl ⟨by rfl, ?_⟩) hHeld ?_ ?_
         rotate_left
         ·
          rintro w' ⟨s0, s1, s2, s3, s4, s5⟩
          go_simp
          with_reducible rfl
         rotate_left
         ·
          exact z24_0
         refine one_ (i := 6) (N := some 29) #[true, true, true, true, true, true, true, false] rfl rfl (one_of HT_.out z24_4) (by decide) (fun K hK => ?_)
         refine goes_ Try.func119 z24_4 rfl #[.int .i64 (wrap64 (x1_1 + 1))] (by rfl) rfl rfl z24_5 ?_
         with_reducible refine (laws_markText.calls k1 (wrap64 (x1_1 + 1)) t681 _ A6.out).mono ?_
         rintro e w26 ⟨rfl, hb⟩
         refine ⟨_, rfl, ?_⟩
         have n0_ := Aside0.mk (below_step z24_2 hb)
         clear HB
         have HB := n0_
         clear n0_
         (try clear hb)
         (try clear hb2)
         (try clear hk)
         (try clear hi)
         refine hK.out _ _ ⟨((HB.out.cell (World.block_lt_of_cell? w _ hw680_0)).trans hw680_0), ((HB.out.cell (World.block_lt_of_cell? w _ hw680_1)).trans hw680_1), ((HB.out.cell (World.block_lt_of_cell? w _ hw680_2)).trans hw680_2), ((HB.out.cell (World.block_lt_of_cell? w _ hw680_3)).trans hw680_3), ((HB.out.cell (World.block_lt_of_cell? w _ hw680_4)).trans hw680_4), ((HB.out.cell (World.block_lt_of_cell? w _ hw680_5)).trans hw680_5)⟩ (fun hHeld => ?_)
         clear hK K
         refine norm_ (a' := ?_) ?_ ?_
         rotate_left
         ·
          show Act.put _ (some 29) _ = _
          simp only [Act.put, List.setIfInBounds_toArray, List.set_cons_zero, List.set_cons_succ, i64_w, i32_w]
          rfl
         refine pure_ (i := 7) (N := some 30) (v := ?_) (a' := ?_) #[true, true, true, true, true, true, true, true] rfl rfl (any_of HT_.out z24_4) (fun _ _ _ h => h) (Or.inl ⟨by rfl, ?_⟩) ?_ ?_
         rotate_left
         ·
          exact z24_3
         rotate_left
         ·
          exact z24_0
         refine done_ (done_of HT_.out z24_4) ?_
         try go_wp2
         have n0_ := Aside0.mk (below_drew1 HB.out)
         clear HB
         have HB := n0_
         clear n0_
         have p682 : 0 ≤ (x5_1 : Int) := of_decide_eq_true z24_1
         have q682 : x5_1 < (l0.length : Int) := of_decide_eq_true z24_1
         obtain ⟨ad682, e682, hx682_0, hx682_1, hx682_2, hx682_3, hx682_4, hx682_5⟩ := at_T134 HR0.out x5_1 p682 q682
         have hw682_5 := hx682_5
         have hw682_4 := hx682_4
         have hw682_3 := hx682_3
         have hw682_2 := hx682_2
         have hw682_1 := hx682_1
         have hw682_0 := hx682_0
         obtain rfl : ad679 = ad682 := (by injection e682)
         replace hx682_0 := (HB.out.cell (World.block_lt_of_cell? w _ hx682_0)).trans hx682_0
         replace hx682_1 := (HB.out.cell (World.block_lt_of_cell? w _ hx682_1)).trans hx682_1
         replace hx682_2 := (HB.out.cell (World.block_lt_of_cell? w _ hx682_2)).trans hx682_2
         replace hx682_3 := (HB.out.cell (World.block_lt_of_cell? w _ hx682_3)).trans hx682_3
         replace hx682_4 := (HB.out.cell (World.block_lt_of_cell? w _ hx682_4)).trans hx682_4
         replace hx682_5 := (HB.out.cell (World.block_lt_of_cell? w _ hx682_5)).trans hx682_5
         replace p682 := eq_true p682
         replace q682 := eq_true q682
         refine start_ (n := 8) (S := fun w' => w'.cell? (ad679.add ((x5_1).toNat * 6)) = some (.bool ((rd_T134 l0 x5_1).f0)) ∧ w'.cell? ⟨(ad679.add ((x5_1).toNat * 6)).block, (ad679.add ((x5_1).toNat * 6)).off + 1, none⟩ = some (.string ((rd_T134 l0 x5_1).f1)) ∧ w'.cell? ⟨(ad679.add ((x5_1).toNat * 6)).block, (ad679.add ((x5_1).toNat * 6)).off + 2, none⟩ = some (.string ((rd_T134 l0 x5_1).f2)) ∧ w'.cell? ⟨(ad679.add ((x5_1).toNat * 6)).block, (ad679.add ((x5_1).toNat * 6)).off + 3, none⟩ = some (.int .i64 ((rd_T134 l0 x5_1).f3)) ∧ w'.cell? ⟨(ad679.add ((x5_1).toNat * 6)).block, (ad679.add ((x5_1).toNat * 6)).off + 4, none⟩ = some (.int .i64 ((rd_T134 l0 x5_1).f4.f0)) ∧ w'.cell? ⟨(ad679.add ((x5_1).toNat * 6)).block, (ad679.add ((x5_1).toNat * 6)).off + 5, none⟩ = some (.int .i64 ((rd_T134 l0 x5_1).f4.f1))) (ds := []) #[false, false, false, false, false, false, false, false] z24_4 rfl rfl ⟨((HB.out.cell (World.block_lt_of_cell? w _ hw682_0)).trans hw682_0), ((HB.out.cell (World.block_lt_of_cell? w _ hw682_1)).trans hw682_1), ((HB.out.cell (World.block_lt_of_cell? w _ hw682_2)).trans hw682_2), ((HB.out.cell (World.block_lt_of_cell? w _ hw682_3)).trans hw682_3), ((HB.out.cell (World.block_lt_of_cell? w _ hw682_4)).trans hw682_4), ((HB.out.cell (World.block_lt_of_cell? w _ hw682_5)).trans hw682_5)⟩ (fun hHeld => ?_); refine with_tabW laws_heldLiveS.tab10 laws_heldLiveS.bits10 (fun HT_ HW_ => ?_)
         generalize w26.drew = w27 at HB hx682_0 hx682_1 hx682_2 hx682_3 hx682_4 hx682_5 hHeld ⊢
         refine pure_ (i := 0) (N := some 33) (v := ?_) (a' := ?_) #[true, false, false, false, false, false, false, false] rfl rfl (any_of HT_.out z24_4) (fun _ _ _ h => h) (Or.inl ⟨by rfl, ?_⟩) ?_ ?_
         rotate_left
         ·
          exact z24_3
         rotate_left
         ·
          exact z24_0
         refine pure_ (i := 1) (N := some 34) (v := ?_) (a' := ?_) #[true, true, false, false, false, false, false, false] rfl rfl (any_of HT_.out z24_4) (fun _ _ _ h => h) (Or.inl ⟨by rfl, ?_⟩) ?_ ?_
         rotate_left
         ·
          exact z24_3
         rotate_left
         ·
          exact z24_0
         refine pure_ (i := 2) (N := some 35) (v := ?_) (a' := ?_) #[true, true, true, false, false, false, false, false] rfl rfl (any_of HT_.out z24_4) (fun _ _ _ h => h) (Or.inl ⟨by rfl, ?_⟩) ?_ ?_
         rotate_left
         ·
          exact z24_3
         rotate_left
         ·
          exact z24_0
         refine pure_ (i := 3) (N := some 36) (v := ?_) (a' := ?_) #[true, true, true, true, false, false, false, false] rfl rfl (any_of HT_.out z24_4) (fun _ _ _ h => h) (Or.inl ⟨by rfl, ?_⟩) ?_ ?_
         rotate_left
         ·
          exact z24_3
         rotate_left
         ·
          exact z24_0
         refine pure_ (i := 5) (N := some 38) (v := ?_) (a' := ?_) #[true, true, true, true, false, true, false, false] rfl rfl (any_of HT_.out z24_4) (fun _ _ _ h => h) (Or.inl ⟨by rfl, ?_⟩) ?_ ?_
         rotate_left
         ·
          exact z24_3
         rotate_left
         ·
          exact z24_0
         refine take_ (i := 4) (N := some 37) (v := ?_) (a' := ?_) #[true, true, true, true, true, true, false, false] rfl rfl (take_ofW HT_.out HW_.out z24_4) (fun _ _ _ h => h) (Or.inl ⟨by rfl, ?_⟩) hHeld ?_ ?_
         rotate_left
         ·
          rintro w' ⟨s0, s1, s2, s3, s4, s5⟩
          go_simp
          with_reducible rfl
         rotate_left
         ·
          exact z24_0
         refine one_ (i := 6) (N := some 39) #[true, true, true, true, true, true, true, false] rfl rfl (one_of HT_.out z24_4) (by decide) (fun K hK => ?_)
         refine goes_ Try.func119 z24_4 rfl #[.int .i64 (wrap64 ((wrap64 (x1_1 + 1)) + 1))] (by rfl) rfl rfl z24_5 ?_
         with_reducible refine (laws_markText.calls k1 (wrap64 ((wrap64 (x1_1 + 1)) + 1)) t683 _ A8.out).mono ?_
         rintro e w28 ⟨rfl, hb⟩
         refine ⟨_, rfl, ?_⟩
         have n0_ := Aside0.mk (below_step z24_2 hb)
         clear HB
         have HB := n0_
         clear n0_
         (try clear hb)
         (try clear hb2)
         (try clear hk)
         (try clear hi)
         refine hK.out _ _ ⟨((HB.out.cell (World.block_lt_of_cell? w _ hw682_0)).trans hw682_0), ((HB.out.cell (World.block_lt_of_cell? w _ hw682_1)).trans hw682_1), ((HB.out.cell (World.block_lt_of_cell? w _ hw682_2)).trans hw682_2), ((HB.out.cell (World.block_lt_of_cell? w _ hw682_3)).trans hw682_3), ((HB.out.cell (World.block_lt_of_cell? w _ hw682_4)).trans hw682_4), ((HB.out.cell (World.block_lt_of_cell? w _ hw682_5)).trans hw682_5)⟩ (fun hHeld => ?_)
         clear hK K
         refine norm_ (a' := ?_) ?_ ?_
         rotate_left
         ·
          show Act.put _ (some 39) _ = _
          simp only [Act.put, List.setIfInBounds_toArray, List.set_cons_zero, List.set_cons_succ, i64_w, i32_w]
          rfl
         refine pure_ (i := 7) (N := some 40) (v := ?_) (a' := ?_) #[true, true, true, true, true, true, true, true] rfl rfl (any_of HT_.out z24_4) (fun _ _ _ h => h) (Or.inl ⟨by rfl, ?_⟩) ?_ ?_
         rotate_left
         ·
          exact z24_3
         rotate_left
         ·
          exact z24_0
         refine done_ (done_of HT_.out z24_4) ?_
         have p684 : 0 ≤ (x5_1 : Int) := of_decide_eq_true z24_1
         have q684 : x5_1 < (l0.length : Int) := of_decide_eq_true z24_1
         obtain ⟨ad684, e684, hx684_0, hx684_1, hx684_2, hx684_3, hx684_4, hx684_5⟩ := at_T134 HR0.out x5_1 p684 q684
         obtain rfl : ad679 = ad684 := (by injection e684)
         replace hx684_0 := (HB.out.cell (World.block_lt_of_cell? w _ hx684_0)).trans hx684_0
         replace hx684_1 := (HB.out.cell (World.block_lt_of_cell? w _ hx684_1)).trans hx684_1
         replace hx684_2 := (HB.out.cell (World.block_lt_of_cell? w _ hx684_2)).trans hx684_2
         replace hx684_3 := (HB.out.cell (World.block_lt_of_cell? w _ hx684_3)).trans hx684_3
         replace hx684_4 := (HB.out.cell (World.block_lt_of_cell? w _ hx684_4)).trans hx684_4
         replace hx684_5 := (HB.out.cell (World.block_lt_of_cell? w _ hx684_5)).trans hx684_5
         replace p684 := eq_true p684
         replace q684 := eq_true q684
         try go_wp2
         go_ret
         exact ⟨z24_6, z24_2⟩
       ·
        rw [if_neg c9] at H
        have c9b0 : (((rd_T134 l0 x5_1).f2).toList == t683.toList) = false := beq_eq_false_iff_ne.mpr c9
        have c9b1 : (((rd_T134 l0 x5_1).f2).toList != t683.toList) = true := bne_iff_ne.mpr c9
        obtain rfl := Option.some.inj H
        have p679 : 0 ≤ (x5_1 : Int) := of_decide_eq_true z24_1
        have q679 : x5_1 < (l0.length : Int) := of_decide_eq_true z24_1
        obtain ⟨ad679, e679, hx679_0, hx679_1, hx679_2, hx679_3, hx679_4, hx679_5⟩ := at_T134 HR0.out x5_1 p679 q679
        cases e679
        replace hx679_0 := (HB.out.cell (World.block_lt_of_cell? w _ hx679_0)).trans hx679_0
        replace hx679_1 := (HB.out.cell (World.block_lt_of_cell? w _ hx679_1)).trans hx679_1
        replace hx679_2 := (HB.out.cell (World.block_lt_of_cell? w _ hx679_2)).trans hx679_2
        replace hx679_3 := (HB.out.cell (World.block_lt_of_cell? w _ hx679_3)).trans hx679_3
        replace hx679_4 := (HB.out.cell (World.block_lt_of_cell? w _ hx679_4)).trans hx679_4
        replace hx679_5 := (HB.out.cell (World.block_lt_of_cell? w _ hx679_5)).trans hx679_5
        replace p679 := eq_true p679
        replace q679 := eq_true q679
        try go_wp2
        have n0_ := Aside0.mk (below_drew1 HB.out)
        clear HB
        have HB := n0_
        clear n0_
        have p680 : 0 ≤ (x5_1 : Int) := of_decide_eq_true z24_1
        have q680 : x5_1 < (l0.length : Int) := of_decide_eq_true z24_1
        obtain ⟨ad680, e680, hx680_0, hx680_1, hx680_2, hx680_3, hx680_4, hx680_5⟩ := at_T134 HR0.out x5_1 p680 q680
        have hw680_5 := hx680_5
        have hw680_4 := hx680_4
        have hw680_3 := hx680_3
        have hw680_2 := hx680_2
        have hw680_1 := hx680_1
        have hw680_0 := hx680_0
        obtain rfl : ad679 = ad680 := (by injection e680)
        replace hx680_0 := (HB.out.cell (World.block_lt_of_cell? w _ hx680_0)).trans hx680_0
        replace hx680_1 := (HB.out.cell (World.block_lt_of_cell? w _ hx680_1)).trans hx680_1
        replace hx680_2 := (HB.out.cell (World.block_lt_of_cell? w _ hx680_2)).trans hx680_2
        replace hx680_3 := (HB.out.cell (World.block_lt_of_cell? w _ hx680_3)).trans hx680_3
        replace hx680_4 := (HB.out.cell (World.block_lt_of_cell? w _ hx680_4)).trans hx680_4
        replace hx680_5 := (HB.out.cell (World.block_lt_of_cell? w _ hx680_5)).trans hx680_5
        replace p680 := eq_true p680
        replace q680 := eq_true q680
        refine start_ (n := 8) (S := fun w' => w'.cell? (ad679.add ((x5_1).toNat * 6)) = some (.bool ((rd_T134 l0 x5_1).f0)) ∧ w'.cell? ⟨(ad679.add ((x5_1).toNat * 6)).block, (ad679.add ((x5_1).toNat * 6)).off + 1, none⟩ = some (.string ((rd_T134 l0 x5_1).f1)) ∧ w'.cell? ⟨(ad679.add ((x5_1).toNat * 6)).block, (ad679.add ((x5_1).toNat * 6)).off + 2, none⟩ = some (.string ((rd_T134 l0 x5_1).f2)) ∧ w'.cell? ⟨(ad679.add ((x5_1).toNat * 6)).block, (ad679.add ((x5_1).toNat * 6)).off + 3, none⟩ = some (.int .i64 ((rd_T134 l0 x5_1).f3)) ∧ w'.cell? ⟨(ad679.add ((x5_1).toNat * 6)).block, (ad679.add ((x5_1).toNat * 6)).off + 4, none⟩ = some (.int .i64 ((rd_T134 l0 x5_1).f4.f0)) ∧ w'.cell? ⟨(ad679.add ((x5_1).toNat * 6)).block, (ad679.add ((x5_1).toNat * 6)).off + 5, none⟩ = some (.int .i64 ((rd_T134 l0 x5_1).f4.f1))) (ds := []) #[false, false, false, false, false, false, false, false] z24_4 rfl rfl ⟨((HB.out.cell (World.block_lt_of_cell? w _ hw680_0)).trans hw680_0), ((HB.out.cell (World.block_lt_of_cell? w _ hw680_1)).trans hw680_1), ((HB.out.cell (World.block_lt_of_cell? w _ hw680_2)).trans hw680_2), ((HB.out.cell (World.block_lt_of_cell? w _ hw680_3)).trans hw680_3), ((HB.out.cell (World.block_lt_of_cell? w _ hw680_4)).trans hw680_4), ((HB.out.cell (World.block_lt_of_cell? w _ hw680_5)).trans hw680_5)⟩ (fun hHeld => ?_); refine with_tabW laws_heldLiveS.tab7 laws_heldLiveS.bits7 (fun HT_ HW_ => ?_)
        generalize wr.drew = w29 at HB hx680_0 hx680_1 hx680_2 hx680_3 hx680_4 hx680_5 hHeld ⊢
        refine pure_ (i := 0) (N := some 23) (v := ?_) (a' := ?_) #[true, false, false, false, false, false, false, false] rfl rfl (any_of HT_.out z24_4) (fun _ _ _ h => h) (Or.inl ⟨by rfl, ?_⟩) ?_ ?_
        rotate_left
        ·
         exact z24_3
        rotate_left
        ·
         exact z24_0
        refine pure_ (i := 1) (N := some 24) (v := ?_) (a' := ?_) #[true, true, false, false, false, false, false, false] rfl rfl (any_of HT_.out z24_4) (fun _ _ _ h => h) (Or.inl ⟨by rfl, ?_⟩) ?_ ?_
        rotate_left
        ·
         exact z24_3
        rotate_left
        ·
         exact z24_0
        refine pure_ (i := 2) (N := some 25) (v := ?_) (a' := ?_) #[true, true, true, false, false, false, false, false] rfl rfl (any_of HT_.out z24_4) (fun _ _ _ h => h) (Or.inl ⟨by rfl, ?_⟩) ?_ ?_
        rotate_left
        ·
         exact z24_3
        rotate_left
        ·
         exact z24_0
        refine pure_ (i := 3) (N := some 26) (v := ?_) (a' := ?_) #[true, true, true, true, false, false, false, false] rfl rfl (any_of HT_.out z24_4) (fun _ _ _ h => h) (Or.inl ⟨by rfl, ?_⟩) ?_ ?_
        rotate_left
        ·
         exact z24_3
        rotate_left
        ·
         exact z24_0
        refine pure_ (i := 5) (N := some 28) (v := ?_) (a' := ?_) #[true, true, true, true, false, true, false, false] rfl rfl (any_of HT_.out z24_4) (fun _ _ _ h => h) (Or.inl ⟨by rfl, ?_⟩) ?_ ?_
        rotate_left
        ·
         exact z24_3
        rotate_left
        ·
         exact z24_0
        refine take_ (i := 4) (N := some 27) (v := ?_) (a' := ?_) #[true, true, true, true, true, true, false, false] rfl rfl (take_ofW HT_.out HW_.out z24_4) (fun _ _ _ h => h) (Or.inl ⟨by rfl, ?_⟩) hHeld ?_ ?_
        rotate_left
        ·
         rintro w' ⟨s0, s1, s2, s3, s4, s5⟩
         go_simp
         with_reducible rfl
        rotate_left
        ·
         exact z24_0
        refine one_ (i := 6) (N := some 29) #[true, true, true, true, true, true, true, false] rfl rfl (one_of HT_.out z24_4) (by decide) (fun K hK => ?_)
        refine goes_ Try.func119 z24_4 rfl #[.int .i64 (wrap64 (x1_1 + 1))] (by rfl) rfl rfl z24_5 ?_
        with_reducible refine (laws_markText.calls k1 (wrap64 (x1_1 + 1)) t681 _ A6.out).mono ?_
        rintro e w30 ⟨rfl, hb⟩
        refine ⟨_, rfl, ?_⟩
        have n0_ := Aside0.mk (below_step z24_2 hb)
        clear HB
        have HB := n0_
        clear n0_
        (try clear hb)
        (try clear hb2)
        (try clear hk)
        (try clear hi)
        refine hK.out _ _ ⟨((HB.out.cell (World.block_lt_of_cell? w _ hw680_0)).trans hw680_0), ((HB.out.cell (World.block_lt_of_cell? w _ hw680_1)).trans hw680_1), ((HB.out.cell (World.block_lt_of_cell? w _ hw680_2)).trans hw680_2), ((HB.out.cell (World.block_lt_of_cell? w _ hw680_3)).trans hw680_3), ((HB.out.cell (World.block_lt_of_cell? w _ hw680_4)).trans hw680_4), ((HB.out.cell (World.block_lt_of_cell? w _ hw680_5)).trans hw680_5)⟩ (fun hHeld => ?_)
        clear hK K
        refine norm_ (a' := ?_) ?_ ?_
        rotate_left
        ·
         show Act.put _ (some 29) _ = _
         simp only [Act.put, List.setIfInBounds_toArray, List.set_cons_zero, List.set_cons_succ, i64_w, i32_w]
         rfl
        refine pure_ (i := 7) (N := some 30) (v := ?_) (a' := ?_) #[true, true, true, true, true, true, true, true] rfl rfl (any_of HT_.out z24_4) (fun _ _ _ h => h) (Or.inl ⟨by rfl, ?_⟩) ?_ ?_
        rotate_left
        ·
         exact z24_3
        rotate_left
        ·
         exact z24_0
        refine done_ (done_of HT_.out z24_4) ?_
        try go_wp2
        have n0_ := Aside0.mk (below_drew1 HB.out)
        clear HB
        have HB := n0_
        clear n0_
        have p682 : 0 ≤ (x5_1 : Int) := of_decide_eq_true z24_1
        have q682 : x5_1 < (l0.length : Int) := of_decide_eq_true z24_1
        obtain ⟨ad682, e682, hx682_0, hx682_1, hx682_2, hx682_3, hx682_4, hx682_5⟩ := at_T134 HR0.out x5_1 p682 q682
        have hw682_5 := hx682_5
        have hw682_4 := hx682_4
        have hw682_3 := hx682_3
        have hw682_2 := hx682_2
        have hw682_1 := hx682_1
        have hw682_0 := hx682_0
        obtain rfl : ad679 = ad682 := (by injection e682)
        replace hx682_0 := (HB.out.cell (World.block_lt_of_cell? w _ hx682_0)).trans hx682_0
        replace hx682_1 := (HB.out.cell (World.block_lt_of_cell? w _ hx682_1)).trans hx682_1
        replace hx682_2 := (HB.out.cell (World.block_lt_of_cell? w _ hx682_2)).trans hx682_2
        replace hx682_3 := (HB.out.cell (World.block_lt_of_cell? w _ hx682_3)).trans hx682_3
        replace hx682_4 := (HB.out.cell (World.block_lt_of_cell? w _ hx682_4)).trans hx682_4
        replace hx682_5 := (HB.out.cell (World.block_lt_of_cell? w _ hx682_5)).trans hx682_5
        replace p682 := eq_true p682
        replace q682 := eq_true q682
        refine start_ (n := 8) (S := fun w' => w'.cell? (ad679.add ((x5_1).toNat * 6)) = some (.bool ((rd_T134 l0 x5_1).f0)) ∧ w'.cell? ⟨(ad679.add ((x5_1).toNat * 6)).block, (ad679.add ((x5_1).toNat * 6)).off + 1, none⟩ = some (.string ((rd_T134 l0 x5_1).f1)) ∧ w'.cell? ⟨(ad679.add ((x5_1).toNat * 6)).block, (ad679.add ((x5_1).toNat * 6)).off + 2, none⟩ = some (.string ((rd_T134 l0 x5_1).f2)) ∧ w'.cell? ⟨(ad679.add ((x5_1).toNat * 6)).block, (ad679.add ((x5_1).toNat * 6)).off + 3, none⟩ = some (.int .i64 ((rd_T134 l0 x5_1).f3)) ∧ w'.cell? ⟨(ad679.add ((x5_1).toNat * 6)).block, (ad679.add ((x5_1).toNat * 6)).off + 4, none⟩ = some (.int .i64 ((rd_T134 l0 x5_1).f4.f0)) ∧ w'.cell? ⟨(ad679.add ((x5_1).toNat * 6)).block, (ad679.add ((x5_1).toNat * 6)).off + 5, none⟩ = some (.int .i64 ((rd_T134 l0 x5_1).f4.f1))) (ds := []) #[false, false, false, false, false, false, false, false] z24_4 rfl rfl ⟨((HB.out.cell (World.block_lt_of_cell? w _ hw682_0)).trans hw682_0), ((HB.out.cell (World.block_lt_of_cell? w _ hw682_1)).trans hw682_1), ((HB.out.cell (World.block_lt_of_cell? w _ hw682_2)).trans hw682_2), ((HB.out.cell (World.block_lt_of_cell? w _ hw682_3)).trans hw682_3), ((HB.out.cell (World.block_lt_of_cell? w _ hw682_4)).trans hw682_4), ((HB.out.cell (World.block_lt_of_cell? w _ hw682_5)).trans hw682_5)⟩ (fun hHeld => ?_); refine with_tabW laws_heldLiveS.tab10 laws_heldLiveS.bits10 (fun HT_ HW_ => ?_)
        generalize w30.drew = w31 at HB hx682_0 hx682_1 hx682_2 hx682_3 hx682_4 hx682_5 hHeld ⊢
        refine pure_ (i := 0) (N := some 33) (v := ?_) (a' := ?_) #[true, false, false, false, false, false, false, false] rfl rfl (any_of HT_.out z24_4) (fun _ _ _ h => h) (Or.inl ⟨by rfl, ?_⟩) ?_ ?_
        rotate_left
        ·
         exact z24_3
        rotate_left
        ·
         exact z24_0
        refine pure_ (i := 1) (N := some 34) (v := ?_) (a' := ?_) #[true, true, false, false, false, false, false, false] rfl rfl (any_of HT_.out z24_4) (fun _ _ _ h => h) (Or.inl ⟨by rfl, ?_⟩) ?_ ?_
        rotate_left
        ·
         exact z24_3
        rotate_left
        ·
         exact z24_0
        refine pure_ (i := 2) (N := some 35) (v := ?_) (a' := ?_) #[true, true, true, false, false, false, false, false] rfl rfl (any_of HT_.out z24_4) (fun _ _ _ h => h) (Or.inl ⟨by rfl, ?_⟩) ?_ ?_
        rotate_left
        ·
         exact z24_3
        rotate_left
        ·
         exact z24_0
        refine pure_ (i := 3) (N := some 36) (v := ?_) (a' := ?_) #[true, true, true, true, false, false, false, false] rfl rfl (any_of HT_.out z24_4) (fun _ _ _ h => h) (Or.inl ⟨by rfl, ?_⟩) ?_ ?_
        rotate_left
        ·
         exact z24_3
        rotate_left
        ·
         exact z24_0
        refine pure_ (i := 5) (N := some 38) (v := ?_) (a' := ?_) #[true, true, true, true, false, true, false, false] rfl rfl (any_of HT_.out z24_4) (fun _ _ _ h => h) (Or.inl ⟨by rfl, ?_⟩) ?_ ?_
        rotate_left
        ·
         exact z24_3
        rotate_left
        ·
         exact z24_0
        refine take_ (i := 4) (N := some 37) (v := ?_) (a' := ?_) #[true, true, true, true, true, true, false, false] rfl rfl (take_ofW HT_.out HW_.out z24_4) (fun _ _ _ h => h) (Or.inl ⟨by rfl, ?_⟩) hHeld ?_ ?_
        rotate_left
        ·
         rintro w' ⟨s0, s1, s2, s3, s4, s5⟩
         go_simp
         with_reducible rfl
        rotate_left
        ·
         exact z24_0
        refine one_ (i := 6) (N := some 39) #[true, true, true, true, true, true, true, false] rfl rfl (one_of HT_.out z24_4) (by decide) (fun K hK => ?_)
        refine goes_ Try.func119 z24_4 rfl #[.int .i64 (wrap64 ((wrap64 (x1_1 + 1)) + 1))] (by rfl) rfl rfl z24_5 ?_
        with_reducible refine (laws_markText.calls k1 (wrap64 ((wrap64 (x1_1 + 1)) + 1)) t683 _ A8.out).mono ?_
        rintro e w32 ⟨rfl, hb⟩
        refine ⟨_, rfl, ?_⟩
        have n0_ := Aside0.mk (below_step z24_2 hb)
        clear HB
        have HB := n0_
        clear n0_
        (try clear hb)
        (try clear hb2)
        (try clear hk)
        (try clear hi)
        refine hK.out _ _ ⟨((HB.out.cell (World.block_lt_of_cell? w _ hw682_0)).trans hw682_0), ((HB.out.cell (World.block_lt_of_cell? w _ hw682_1)).trans hw682_1), ((HB.out.cell (World.block_lt_of_cell? w _ hw682_2)).trans hw682_2), ((HB.out.cell (World.block_lt_of_cell? w _ hw682_3)).trans hw682_3), ((HB.out.cell (World.block_lt_of_cell? w _ hw682_4)).trans hw682_4), ((HB.out.cell (World.block_lt_of_cell? w _ hw682_5)).trans hw682_5)⟩ (fun hHeld => ?_)
        clear hK K
        refine norm_ (a' := ?_) ?_ ?_
        rotate_left
        ·
         show Act.put _ (some 39) _ = _
         simp only [Act.put, List.setIfInBounds_toArray, List.set_cons_zero, List.set_cons_succ, i64_w, i32_w]
         rfl
        refine pure_ (i := 7) (N := some 40) (v := ?_) (a' := ?_) #[true, true, true, true, true, true, true, true] rfl rfl (any_of HT_.out z24_4) (fun _ _ _ h => h) (Or.inl ⟨by rfl, ?_⟩) ?_ ?_
        rotate_left
        ·
         exact z24_3
        rotate_left
        ·
         exact z24_0
        refine done_ (done_of HT_.out z24_4) ?_
        try go_wp2
        go_ret
        exact ⟨z24_6, z24_2⟩
      ·
       rw [if_neg c7] at H
       have c7b0 : (((rd_T134 l0 x5_1).f1).toList == t681.toList) = false := beq_eq_false_iff_ne.mpr c7
       have c7b1 : (((rd_T134 l0 x5_1).f1).toList != t681.toList) = true := bne_iff_ne.mpr c7
       obtain rfl := Option.some.inj H
       have p679 : 0 ≤ (x5_1 : Int) := of_decide_eq_true z24_1
       have q679 : x5_1 < (l0.length : Int) := of_decide_eq_true z24_1
       obtain ⟨ad679, e679, hx679_0, hx679_1, hx679_2, hx679_3, hx679_4, hx679_5⟩ := at_T134 HR0.out x5_1 p679 q679
       cases e679
       replace hx679_0 := (HB.out.cell (World.block_lt_of_cell? w _ hx679_0)).trans hx679_0
       replace hx679_1 := (HB.out.cell (World.block_lt_of_cell? w _ hx679_1)).trans hx679_1
       replace hx679_2 := (HB.out.cell (World.block_lt_of_cell? w _ hx679_2)).trans hx679_2
       replace hx679_3 := (HB.out.cell (World.block_lt_of_cell? w _ hx679_3)).trans hx679_3
       replace hx679_4 := (HB.out.cell (World.block_lt_of_cell? w _ hx679_4)).trans hx679_4
       replace hx679_5 := (HB.out.cell (World.block_lt_of_cell? w _ hx679_5)).trans hx679_5
       replace p679 := eq_true p679
       replace q679 := eq_true q679
       try go_wp2
       have n0_ := Aside0.mk (below_drew1 HB.out)
       clear HB
       have HB := n0_
       clear n0_
       have p680 : 0 ≤ (x5_1 : Int) := of_decide_eq_true z24_1
       have q680 : x5_1 < (l0.length : Int) := of_decide_eq_true z24_1
       obtain ⟨ad680, e680, hx680_0, hx680_1, hx680_2, hx680_3, hx680_4, hx680_5⟩ := at_T134 HR0.out x5_1 p680 q680
       have hw680_5 := hx680_5
       have hw680_4 := hx680_4
       have hw680_3 := hx680_3
       have hw680_2 := hx680_2
       have hw680_1 := hx680_1
       have hw680_0 := hx680_0
       obtain rfl : ad679 = ad680 := (by injection e680)
       replace hx680_0 := (HB.out.cell (World.block_lt_of_cell? w _ hx680_0)).trans hx680_0
       replace hx680_1 := (HB.out.cell (World.block_lt_of_cell? w _ hx680_1)).trans hx680_1
       replace hx680_2 := (HB.out.cell (World.block_lt_of_cell? w _ hx680_2)).trans hx680_2
       replace hx680_3 := (HB.out.cell (World.block_lt_of_cell? w _ hx680_3)).trans hx680_3
       replace hx680_4 := (HB.out.cell (World.block_lt_of_cell? w _ hx680_4)).trans hx680_4
       replace hx680_5 := (HB.out.cell (World.block_lt_of_cell? w _ hx680_5)).trans hx680_5
       replace p680 := eq_true p680
       replace q680 := eq_true q680
       refine start_ (n := 8) (S := fun w' => w'.cell? (ad679.add ((x5_1).toNat * 6)) = some (.bool ((rd_T134 l0 x5_1).f0)) ∧ w'.cell? ⟨(ad679.add ((x5_1).toNat * 6)).block, (ad679.add ((x5_1).toNat * 6)).off + 1, none⟩ = some (.string ((rd_T134 l0 x5_1).f1)) ∧ w'.cell? ⟨(ad679.add ((x5_1).toNat * 6)).block, (ad679.add ((x5_1).toNat * 6)).off + 2, none⟩ = some (.string ((rd_T134 l0 x5_1).f2)) ∧ w'.cell? ⟨(ad679.add ((x5_1).toNat * 6)).block, (ad679.add ((x5_1).toNat * 6)).off + 3, none⟩ = some (.int .i64 ((rd_T134 l0 x5_1).f3)) ∧ w'.cell? ⟨(ad679.add ((x5_1).toNat * 6)).block, (ad679.add ((x5_1).toNat * 6)).off + 4, none⟩ = some (.int .i64 ((rd_T134 l0 x5_1).f4.f0)) ∧ w'.cell? ⟨(ad679.add ((x5_1).toNat * 6)).block, (ad679.add ((x5_1).toNat * 6)).off + 5, none⟩ = some (.int .i64 ((rd_T134 l0 x5_1).f4.f1))) (ds := []) #[false, false, false, false, false, false, false, false] z24_4 rfl rfl ⟨((HB.out.cell (World.block_lt_of_cell? w _ hw680_0)).trans hw680_0), ((HB.out.cell (World.block_lt_of_cell? w _ hw680_1)).trans hw680_1), ((HB.out.cell (World.block_lt_of_cell? w _ hw680_2)).trans hw680_2), ((HB.out.cell (World.block_lt_of_cell? w _ hw680_3)).trans hw680_3), ((HB.out.cell (World.block_lt_of_cell? w _ hw680_4)).trans hw680_4), ((HB.out.cell (World.block_lt_of_cell? w _ hw680_5)).trans hw680_5)⟩ (fun hHeld => ?_); refine with_tabW laws_heldLiveS.tab7 laws_heldLiveS.bits7 (fun HT_ HW_ => ?_)
       generalize wr.drew = w33 at HB hx680_0 hx680_1 hx680_2 hx680_3 hx680_4 hx680_5 hHeld ⊢
       refine pure_ (i := 0) (N := some 23) (v := ?_) (a' := ?_) #[true, false, false, false, false, false, false, false] rfl rfl (any_of HT_.out z24_4) (fun _ _ _ h => h) (Or.inl ⟨by rfl, ?_⟩) ?_ ?_
       rotate_left
       ·
        exact z24_3
       rotate_left
       ·
        exact z24_0
       refine pure_ (i := 1) (N := some 24) (v := ?_) (a' := ?_) #[true, true, false, false, false, false, false, false] rfl rfl (any_of HT_.out z24_4) (fun _ _ _ h => h) (Or.inl ⟨by rfl, ?_⟩) ?_ ?_
       rotate_left
       ·
        exact z24_3
       rotate_left
       ·
        exact z24_0
       refine pure_ (i := 2) (N := some 25) (v := ?_) (a' := ?_) #[true, true, true, false, false, false, false, false] rfl rfl (any_of HT_.out z24_4) (fun _ _ _ h => h) (Or.inl ⟨by rfl, ?_⟩) ?_ ?_
       rotate_left
       ·
        exact z24_3
       rotate_left
       ·
        exact z24_0
       refine pure_ (i := 3) (N := some 26) (v := ?_) (a' := ?_) #[true, true, true, true, false, false, false, false] rfl rfl (any_of HT_.out z24_4) (fun _ _ _ h => h) (Or.inl ⟨by rfl, ?_⟩) ?_ ?_
       rotate_left
       ·
        exact z24_3
       rotate_left
       ·
        exact z24_0
       refine pure_ (i := 5) (N := some 28) (v := ?_) (a' := ?_) #[true, true, true, true, false, true, false, false] rfl rfl (any_of HT_.out z24_4) (fun _ _ _ h => h) (Or.inl ⟨by rfl, ?_⟩) ?_ ?_
       rotate_left
       ·
        exact z24_3
       rotate_left
       ·
        exact z24_0
       refine take_ (i := 4) (N := some 27) (v := ?_) (a' := ?_) #[true, true, true, true, true, true, false, false] rfl rfl (take_ofW HT_.out HW_.out z24_4) (fun _ _ _ h => h) (Or.inl ⟨by rfl, ?_⟩) hHeld ?_ ?_
       rotate_left
       ·
        rintro w' ⟨s0, s1, s2, s3, s4, s5⟩
        go_simp
        with_reducible rfl
       rotate_left
       ·
        exact z24_0
       refine one_ (i := 6) (N := some 29) #[true, true, true, true, true, true, true, false] rfl rfl (one_of HT_.out z24_4) (by decide) (fun K hK => ?_)
       refine goes_ Try.func119 z24_4 rfl #[.int .i64 (wrap64 (x1_1 + 1))] (by rfl) rfl rfl z24_5 ?_
       with_reducible refine (laws_markText.calls k1 (wrap64 (x1_1 + 1)) t681 _ A6.out).mono ?_
       rintro e w34 ⟨rfl, hb⟩
       refine ⟨_, rfl, ?_⟩
       have n0_ := Aside0.mk (below_step z24_2 hb)
       clear HB
       have HB := n0_
       clear n0_
       (try clear hb)
       (try clear hb2)
       (try clear hk)
       (try clear hi)
       refine hK.out _ _ ⟨((HB.out.cell (World.block_lt_of_cell? w _ hw680_0)).trans hw680_0), ((HB.out.cell (World.block_lt_of_cell? w _ hw680_1)).trans hw680_1), ((HB.out.cell (World.block_lt_of_cell? w _ hw680_2)).trans hw680_2), ((HB.out.cell (World.block_lt_of_cell? w _ hw680_3)).trans hw680_3), ((HB.out.cell (World.block_lt_of_cell? w _ hw680_4)).trans hw680_4), ((HB.out.cell (World.block_lt_of_cell? w _ hw680_5)).trans hw680_5)⟩ (fun hHeld => ?_)
       clear hK K
       refine norm_ (a' := ?_) ?_ ?_
       rotate_left
       ·
        show Act.put _ (some 29) _ = _
        simp only [Act.put, List.setIfInBounds_toArray, List.set_cons_zero, List.set_cons_succ, i64_w, i32_w]
        rfl
       refine pure_ (i := 7) (N := some 30) (v := ?_) (a' := ?_) #[true, true, true, true, true, true, true, true] rfl rfl (any_of HT_.out z24_4) (fun _ _ _ h => h) (Or.inl ⟨by rfl, ?_⟩) ?_ ?_
       rotate_left
       ·
        exact z24_3
       rotate_left
       ·
        exact z24_0
       refine done_ (done_of HT_.out z24_4) ?_
       try go_wp2
       go_ret
       exact ⟨z24_6, z24_2⟩
    ·
     rw [if_neg c4] at H
     exact absurd H (by simp)
   ·
    rw [if_neg c3] at H
    have c3b0 : decide (x5_1 < (l0.length : Int)) = false := decide_eq_false c3
    clear c3
    obtain rfl := Option.some.inj H
    go_wp2
    go_ret
    exact ⟨z24_6, z24_2⟩
end Go.Proofs.Ytmohbiagcbfkpaa.QAct
