/- What the functions behind Act compute, and that the program's calls come to just that. Written by a program of this session on the base of the kit's print. No condition. -/
import Derived.Test.YtmohbiagcbfkpaaVFnExactStateNewQActx0
import Derived.Test.YtmohbiagcbfkpaaVFnExactStateNewQActx22
namespace Go.Proofs.Ytmohbiagcbfkpaa.QAct
open Go.RowKit Go.Proofs.YtmohbiagcbfkpaaW.PrintWords Go.Proofs.YtmohbiagcbfkpaaW.PrintLast Go.Proofs.YtmohbiagcbfkpaaW.PrintMore
attribute [local go_sem] max2_int min2_int max_two min_two max_three min_three max_four min_four   -- for this text's walks alone
set_option linter.unusedVariables false
set_option linter.unusedSimpArgs false
theorem z27_7 {P : Prop} (h : P := by first | rfl | (simp; done) | (simp [*]; done)) : P := h
theorem z27_6 {P : Prop} (h : P := by first | rfl | (simp only [List.map_toArray, List.map_cons, List.map_nil]; first | done | rfl)) : P := h
theorem z27_5 {P : Prop} (h : P := by first | rfl | (simp [errW_none, errW_some] <;> rfl) | (simp [*, errW_none, errW_some] <;> rfl)) : P := h
theorem z27_4 {P : Prop} (h : P := by kernel_rfl) : P := h
theorem z27_3 {P : Prop} (h : P := by intro w'; go_simp; with_reducible rfl) : P := h
theorem z27_2 {P : Prop} (h : P := by repeat (first | (with_reducible first | exact HB.out | apply below_alloc | apply pw_below_drewN | apply below_drew1) | exact HB.out)) : P := h
theorem z27_1 {P : Prop} (h : P := by first | (with_reducible assumption) | assumption) : P := h
theorem z27_0 {P : Prop} (h : P := by simp only [Act.put, List.setIfInBounds_toArray, List.set_cons_zero, List.set_cons_succ, i64_w, i32_w]; rfl) : P := h
def laws_heldCellS.l0 : Nat → List (S167) → Int → Int → Option (Int)
  | 0, _, _, _ => none
  | k + 1, x0, x1, x5 => if x5 < (x0.length : Int) then (if 0 ≤ x5 then ((laws_markText.f k x1).bind fun t779 => (if ((rd_T167 x0 x5).f0).toList = t779.toList then (if ((rd_T167 x0 x5).f1.f0) = (wrap64 (x1 + 1)) then (if ((rd_T167 x0 x5).f1.f1) = (wrap64 ((wrap64 (x1 + 1)) + 1)) then (if ((rd_T167 x0 x5).f2) = (wrap64 ((wrap64 ((wrap64 (x1 + 1)) + 1)) + 1)) then (if ((rd_T167 x0 x5).f3.f0) = (wrap64 ((wrap64 ((wrap64 ((wrap64 (x1 + 1)) + 1)) + 1)) + 1)) then (if ((rd_T167 x0 x5).f3.f1) = (wrap64 ((wrap64 ((wrap64 ((wrap64 ((wrap64 (x1 + 1)) + 1)) + 1)) + 1)) + 1)) then (if ((rd_T167 x0 x5).f4) = (wrap64 ((wrap64 ((wrap64 ((wrap64 ((wrap64 ((wrap64 (x1 + 1)) + 1)) + 1)) + 1)) + 1)) + 1)) then (if (((rd_T167 x0 x5).f5) != ((Int.tmod (wrap64 ((wrap64 ((wrap64 ((wrap64 ((wrap64 ((wrap64 ((wrap64 (x1 + 1)) + 1)) + 1)) + 1)) + 1)) + 1)) + 1)) 3) == 0)) = true then (some (-1)) else (laws_heldCellS.l0 k x0 (wrap64 ((wrap64 ((wrap64 ((wrap64 ((wrap64 ((wrap64 ((wrap64 ((wrap64 (x1 + 1)) + 1)) + 1)) + 1)) + 1)) + 1)) + 1)) + 1)) (wrap64 (x5 + 1)))) else (some (-1))) else (some (-1))) else (some (-1))) else (some (-1))) else (some (-1))) else (some (-1))) else (some (-1)))) else (none)) else (some x1)
def laws_heldCellS.f (k : Nat) (l0 : List (S167)) (a1 : Int) : Option (Int) := laws_heldCellS.l0 k l0 a1 0
def laws_heldCellS.T4 : Bool × List (List Nat × List Nat) := (true, [([], []), ([], []), ([0, 1], [0, 1]), ([2], [2]), ([3], [3]), ([], []), ([5], [5]), ([4, 6], [4, 6])])
def laws_heldCellS.B4 : List Nat := [0, 0, 3, 7, 15, 0, 32, 127]
theorem laws_heldCellS.tab4 : rtab .any (opsOf Try.f122 4) = laws_heldCellS.T4 := by kernel_rfl
theorem laws_heldCellS.bits4 : waitsOk laws_heldCellS.T4.2 laws_heldCellS.B4 = true := by kernel_rfl
set_option maxHeartbeats 8000000 in
set_option maxRecDepth 100000 in
theorem laws_heldCellS.calls (k : Nat) (A0 : Option Addr) (c0 : Nat) (l0 : List (S167)) (a1 : Int) (r : Int) (w : World) (hr0 : Kd.C k167 w A0 l0.length l0) (hc0 : l0.length ≤ c0) (h : laws_heldCellS.f k l0 a1 = some r) :
  Calls Try.prog 122 #[.slice A0 l0.length c0, .int .i64 a1] w fun e w' => e = .returned (.int .i64 r) ∧ Below w.heap.size w w' := by
 have HR0 := Aside0.mk hr0
 have HC0 := Aside0.mk hc0
 clear hr0 hc0
 have HB := Aside0.mk (Below.refl w.heap.size w)
 have H : (laws_heldCellS.l0 k l0 a1 0) = some r := h
 clear h
 have H' := Aside0.mk H
 clear H
 go_enter Try.func122, Try.ntmps122
 go_wp2
 go_loopg [1, 5] k (fun kq v1 v5 w' => ∃ (x1_1 : Int) (x5_1 : Int), v1 = .int .i64 x1_1 ∧ v5 = .int .i64 x5_1 ∧ Aside0 (laws_heldCellS.l0 kq l0 x1_1 x5_1 = some r) ∧ Aside0 (kq ≤ k) ∧ Aside0 (Below w.heap.size w w'))
 case atStart => exact ⟨(a1), (0), z27_7, z27_7, H', ⟨Nat.le_refl _⟩, ⟨z27_2⟩⟩
 case round =>
  clear H'
  try clear c1
  try clear p2
  obtain ⟨x1_1, x5_1, rfl, rfl, HA, HK1, HB⟩ := hrel
  cases gk with
  | zero => exact absurd HA.out (by simp [laws_heldCellS.l0])
  | succ k1 =>
   have H := HA.out
   clear HA
   simp only [laws_heldCellS.l0] at H
   by_cases c3 : x5_1 < (l0.length : Int)
   ·
    rw [if_pos c3] at H
    have c3b0 : decide (x5_1 < (l0.length : Int)) = true := decide_eq_true c3
    clear c3
    by_cases c4 : 0 ≤ x5_1
    ·
     rw [if_pos c4] at H
     have c4b0 : decide (0 ≤ x5_1) = true := decide_eq_true c4
     clear c4
     replace H := Option.bind_eq_some_iff.mp H
     obtain ⟨t779, A50, H⟩ := H
     (try dsimp only at H)
     have A5 := Aside0.mk A50
     clear A50
     by_cases c6 : ((rd_T167 l0 x5_1).f0).toList = t779.toList
     ·
      rw [if_pos c6] at H
      have c6b0 : (((rd_T167 l0 x5_1).f0).toList == t779.toList) = true := beq_iff_eq.mpr c6
      have c6b1 : (((rd_T167 l0 x5_1).f0).toList != t779.toList) = false := bne_eq_false_iff_eq.mpr c6
      clear c6
      by_cases c7 : ((rd_T167 l0 x5_1).f1.f0) = (wrap64 (x1_1 + 1))
      ·
       rw [if_pos c7] at H
       have c7b0 : (((rd_T167 l0 x5_1).f1.f0) == (wrap64 (x1_1 + 1))) = true := beq_iff_eq.mpr c7
       have c7b1 : (((rd_T167 l0 x5_1).f1.f0) != (wrap64 (x1_1 + 1))) = false := bne_eq_false_iff_eq.mpr c7
       clear c7
       by_cases c8 : ((rd_T167 l0 x5_1).f1.f1) = (wrap64 ((wrap64 (x1_1 + 1)) + 1))
       ·
        rw [if_pos c8] at H
        have c8b0 : (((rd_T167 l0 x5_1).f1.f1) == (wrap64 ((wrap64 (x1_1 + 1)) + 1))) = true := beq_iff_eq.mpr c8
        have c8b1 : (((rd_T167 l0 x5_1).f1.f1) != (wrap64 ((wrap64 (x1_1 + 1)) + 1))) = false := bne_eq_false_iff_eq.mpr c8
        clear c8
        by_cases c9 : ((rd_T167 l0 x5_1).f2) = (wrap64 ((wrap64 ((wrap64 (x1_1 + 1)) + 1)) + 1))
        ·
         rw [if_pos c9] at H
         have c9b0 : (((rd_T167 l0 x5_1).f2) == (wrap64 ((wrap64 ((wrap64 (x1_1 + 1)) + 1)) + 1))) = true := beq_iff_eq.mpr c9
         have c9b1 : (((rd_T167 l0 x5_1).f2) != (wrap64 ((wrap64 ((wrap64 (x1_1 + 1)) + 1)) + 1))) = false := bne_eq_false_iff_eq.mpr c9
         clear c9
         by_cases c10 : ((rd_T167 l0 x5_1).f3.f0) = (wrap64 ((wrap64 ((wrap64 ((wrap64 (x1_1 + 1)) + 1)) + 1)) + 1))
         ·
          rw [if_pos c10] at H
          have c10b0 : (((rd_T167 l0 x5_1).f3.f0) == (wrap64 ((wrap64 ((wrap64 ((wrap64 (x1_1 + 1)) + 1)) + 1)) + 1))) = true := beq_iff_eq.mpr c10
          have c10b1 : (((rd_T167 l0 x5_1).f3.f0) != (wrap64 ((wrap64 ((wrap64 ((wrap64 (x1_1 + 1)) + 1)) + 1)) + 1))) = false := bne_eq_false_iff_eq.mpr c10
          clear c10
          by_cases c11 : ((rd_T167 l0 x5_1).f3.f1) = (wrap64 ((wrap64 ((wrap64 ((wrap64 ((wrap64 (x1_1 + 1)) + 1)) + 1)) + 1)) + 1))
          ·
           rw [if_pos c11] at H
           have c11b0 : (((rd_T167 l0 x5_1).f3.f1) == (wrap64 ((wrap64 ((wrap64 ((wrap64 ((wrap64 (x1_1 + 1)) + 1)) + 1)) + 1)) + 1))) = true := beq_iff_eq.mpr c11
           have c11b1 : (((rd_T167 l0 x5_1).f3.f1) != (wrap64 ((wrap64 ((wrap64 ((wrap64 ((wrap64 (x1_1 + 1)) + 1)) + 1)) + 1)) + 1))) = false := bne_eq_false_iff_eq.mpr c11
           clear c11
           by_cases c12 : ((rd_T167 l0 x5_1).f4) = (wrap64 ((wrap64 ((wrap64 ((wrap64 ((wrap64 ((wrap64 (x1_1 + 1)) + 1)) + 1)) + 1)) + 1)) + 1))
           ·
            rw [if_pos c12] at H
            have c12b0 : (((rd_T167 l0 x5_1).f4) == (wrap64 ((wrap64 ((wrap64 ((wrap64 ((wrap64 ((wrap64 (x1_1 + 1)) + 1)) + 1)) + 1)) + 1)) + 1))) = true := beq_iff_eq.mpr c12
            have c12b1 : (((rd_T167 l0 x5_1).f4) != (wrap64 ((wrap64 ((wrap64 ((wrap64 ((wrap64 ((wrap64 (x1_1 + 1)) + 1)) + 1)) + 1)) + 1)) + 1))) = false := bne_eq_false_iff_eq.mpr c12
            clear c12
            by_cases c13 : (((rd_T167 l0 x5_1).f5) != ((Int.tmod (wrap64 ((wrap64 ((wrap64 ((wrap64 ((wrap64 ((wrap64 ((wrap64 (x1_1 + 1)) + 1)) + 1)) + 1)) + 1)) + 1)) + 1)) 3) == 0)) = true
            ·
             rw [if_pos c13] at H
             have c13b0 : (((rd_T167 l0 x5_1).f5) != ((Int.tmod (wrap64 ((wrap64 ((wrap64 ((wrap64 ((wrap64 ((wrap64 ((wrap64 (x1_1 + 1)) + 1)) + 1)) + 1)) + 1)) + 1)) + 1)) 3) == 0)) = true := c13
             (try (have c13b1 : decide (((rd_T167 l0 x5_1).f5) = ((Int.tmod (wrap64 ((wrap64 ((wrap64 ((wrap64 ((wrap64 ((wrap64 ((wrap64 (x1_1 + 1)) + 1)) + 1)) + 1)) + 1)) + 1)) + 1)) 3) == 0)) = false := by simpa using c13))
             (try (have c13b2 : (((rd_T167 l0 x5_1).f5) == ((Int.tmod (wrap64 ((wrap64 ((wrap64 ((wrap64 ((wrap64 ((wrap64 ((wrap64 (x1_1 + 1)) + 1)) + 1)) + 1)) + 1)) + 1)) + 1)) 3) == 0)) = false := by simpa using c13))
             (try (have c13b3 : ¬ (((rd_T167 l0 x5_1).f5) = ((Int.tmod (wrap64 ((wrap64 ((wrap64 ((wrap64 ((wrap64 ((wrap64 ((wrap64 (x1_1 + 1)) + 1)) + 1)) + 1)) + 1)) + 1)) + 1)) 3) == 0)) := by simpa using c13))
             clear c13
             obtain rfl := Option.some.inj H
             try go_wp2
             have n0_ := Aside0.mk (below_drew1 HB.out)
             clear HB
             have HB := n0_
             clear n0_
             have p778 : 0 ≤ (x5_1 : Int) := of_decide_eq_true z27_1
             have q778 : x5_1 < (l0.length : Int) := of_decide_eq_true z27_1
             obtain ⟨ad778, e778, hx778_0, hx778_1, hx778_2, hx778_3, hx778_4, hx778_5, hx778_6, hx778_7⟩ := at_T167 HR0.out x5_1 p778 q778
             have hw778_7 := hx778_7
             have hw778_6 := hx778_6
             have hw778_5 := hx778_5
             have hw778_4 := hx778_4
             have hw778_3 := hx778_3
             have hw778_2 := hx778_2
             have hw778_1 := hx778_1
             have hw778_0 := hx778_0
             cases e778
             replace hx778_0 := (HB.out.cell (World.block_lt_of_cell? w _ hx778_0)).trans hx778_0
             replace hx778_1 := (HB.out.cell (World.block_lt_of_cell? w _ hx778_1)).trans hx778_1
             replace hx778_2 := (HB.out.cell (World.block_lt_of_cell? w _ hx778_2)).trans hx778_2
             replace hx778_3 := (HB.out.cell (World.block_lt_of_cell? w _ hx778_3)).trans hx778_3
             replace hx778_4 := (HB.out.cell (World.block_lt_of_cell? w _ hx778_4)).trans hx778_4
             replace hx778_5 := (HB.out.cell (World.block_lt_of_cell? w _ hx778_5)).trans hx778_5
             replace hx778_6 := (HB.out.cell (World.block_lt_of_cell? w _ hx778_6)).trans hx778_6
             replace hx778_7 := (HB.out.cell (World.block_lt_of_cell? w _ hx778_7)).trans hx778_7
             replace p778 := eq_true p778
             replace q778 := eq_true q778
             refine start_ (n := 8) (S := fun w' => w'.cell? (ad778.add ((x5_1).toNat * 8)) = some (.string ((rd_T167 l0 x5_1).f0)) ∧ w'.cell? ⟨(ad778.add ((x5_1).toNat * 8)).block, (ad778.add ((x5_1).toNat * 8)).off + 1, none⟩ = some (.int .i64 ((rd_T167 l0 x5_1).f1.f0)) ∧ w'.cell? ⟨(ad778.add ((x5_1).toNat * 8)).block, (ad778.add ((x5_1).toNat * 8)).off + 2, none⟩ = some (.int .i64 ((rd_T167 l0 x5_1).f1.f1)) ∧ w'.cell? ⟨(ad778.add ((x5_1).toNat * 8)).block, (ad778.add ((x5_1).toNat * 8)).off + 3, none⟩ = some (.int .i64 ((rd_T167 l0 x5_1).f2)) ∧ w'.cell? ⟨(ad778.add ((x5_1).toNat * 8)).block, (ad778.add ((x5_1).toNat * 8)).off + 4, none⟩ = some (.int .i64 ((rd_T167 l0 x5_1).f3.f0)) ∧ w'.cell? ⟨(ad778.add ((x5_1).toNat * 8)).block, (ad778.add ((x5_1).toNat * 8)).off + 5, none⟩ = some (.int .i64 ((rd_T167 l0 x5_1).f3.f1)) ∧ w'.cell? ⟨(ad778.add ((x5_1).toNat * 8)).block, (ad778.add ((x5_1).toNat * 8)).off + 6, none⟩ = some (.int .i64 ((rd_T167 l0 x5_1).f4)) ∧ w'.cell? ⟨(ad778.add ((x5_1).toNat * 8)).block, (ad778.add ((x5_1).toNat * 8)).off + 7, none⟩ = some (.bool ((rd_T167 l0 x5_1).f5))) (ds := []) #[false, false, false, false, false, false, false, false] z27_4 rfl rfl ⟨((HB.out.cell (World.block_lt_of_cell? w _ hw778_0)).trans hw778_0), ((HB.out.cell (World.block_lt_of_cell? w _ hw778_1)).trans hw778_1), ((HB.out.cell (World.block_lt_of_cell? w _ hw778_2)).trans hw778_2), ((HB.out.cell (World.block_lt_of_cell? w _ hw778_3)).trans hw778_3), ((HB.out.cell (World.block_lt_of_cell? w _ hw778_4)).trans hw778_4), ((HB.out.cell (World.block_lt_of_cell? w _ hw778_5)).trans hw778_5), ((HB.out.cell (World.block_lt_of_cell? w _ hw778_6)).trans hw778_6), ((HB.out.cell (World.block_lt_of_cell? w _ hw778_7)).trans hw778_7)⟩ (fun hHeld => ?_); refine with_tabW laws_heldCellS.tab4 laws_heldCellS.bits4 (fun HT_ HW_ => ?_)
             generalize wr.drew = w14 at HB hx778_0 hx778_1 hx778_2 hx778_3 hx778_4 hx778_5 hx778_6 hx778_7 hHeld ⊢
             refine pure_ (i := 0) (N := some 12) (v := ?_) (a' := ?_) #[true, false, false, false, false, false, false, false] rfl rfl (any_of HT_.out z27_4) (fun _ _ _ h => h) (Or.inl ⟨by rfl, ?_⟩) ?_ ?_
             rotate_left
             ·
              exact z27_3
             rotate_left
             ·
              exact z27_0
             refine pure_ (i := 1) (N := some 13) (v := ?_) (a' := ?_) #[true, true, false, false, false, false, false, false] rfl rfl (any_of HT_.out z27_4) (fun _ _ _ h => h) (Or.inl ⟨by rfl, ?_⟩) ?_ ?_
             rotate_left
             ·
              exact z27_3
             rotate_left
             ·
              exact z27_0
             refine pure_ (i := 2) (N := some 14) (v := ?_) (a' := ?_) #[true, true, true, false, false, false, false, false] rfl rfl (any_of HT_.out z27_4) (fun _ _ _ h => h) (Or.inl ⟨by rfl, ?_⟩) ?_ ?_
             rotate_left
             ·
              exact z27_3
             rotate_left
             ·
              exact z27_0
             refine pure_ (i := 3) (N := some 15) (v := ?_) (a' := ?_) #[true, true, true, true, false, false, false, false] rfl rfl (any_of HT_.out z27_4) (fun _ _ _ h => h) (Or.inl ⟨by rfl, ?_⟩) ?_ ?_
             rotate_left
             ·
              exact z27_3
             rotate_left
             ·
              exact z27_0
             refine pure_ (i := 5) (N := some 17) (v := ?_) (a' := ?_) #[true, true, true, true, false, true, false, false] rfl rfl (any_of HT_.out z27_4) (fun _ _ _ h => h) (Or.inl ⟨by rfl, ?_⟩) ?_ ?_
             rotate_left
             ·
              exact z27_3
             rotate_left
             ·
              exact z27_0
             refine take_ (i := 4) (N := some 16) (v := ?_) (a' := ?_) #[true, true, true, true, true, true, false, false] rfl rfl (take_ofW HT_.out HW_.out z27_4) (fun _ _ _ h => h) (Or.inl ⟨by rfl, ?_⟩) hHeld ?_ ?_
             rotate_left
             ·
              rintro w' ⟨s0, s1, s2, s3, s4, s5, s6, s7⟩
              go_simp
              with_reducible rfl
             rotate_left
             ·
              exact z27_0
             refine one_ (i := 6) (N := some 18) #[true, true, true, true, true, true, true, false] rfl rfl (one_of HT_.out z27_4) (by decide) (fun K hK => ?_)
             refine goes_ Try.func119 z27_4 rfl #[.int .i64 x1_1] (by rfl) rfl rfl z27_6 ?_
             with_reducible refine (laws_markText.calls k1 x1_1 t779 _ A5.out).mono ?_
             rintro e w15 ⟨rfl, hb⟩
             refine ⟨_, rfl, ?_⟩
             have n0_ := Aside0.mk (below_step z27_2 hb)
             clear HB
             have HB := n0_
             clear n0_
             (try clear hb)
             (try clear hb2)
             (try clear hk)
             (try clear hi)
             refine hK.out _ _ ⟨((HB.out.cell (World.block_lt_of_cell? w _ hw778_0)).trans hw778_0), ((HB.out.cell (World.block_lt_of_cell? w _ hw778_1)).trans hw778_1), ((HB.out.cell (World.block_lt_of_cell? w _ hw778_2)).trans hw778_2), ((HB.out.cell (World.block_lt_of_cell? w _ hw778_3)).trans hw778_3), ((HB.out.cell (World.block_lt_of_cell? w _ hw778_4)).trans hw778_4), ((HB.out.cell (World.block_lt_of_cell? w _ hw778_5)).trans hw778_5), ((HB.out.cell (World.block_lt_of_cell? w _ hw778_6)).trans hw778_6), ((HB.out.cell (World.block_lt_of_cell? w _ hw778_7)).trans hw778_7)⟩ (fun hHeld => ?_)
             clear hK K
             refine norm_ (a' := ?_) ?_ ?_
             rotate_left
             ·
              show Act.put _ (some 18) _ = _
              simp only [Act.put, List.setIfInBounds_toArray, List.set_cons_zero, List.set_cons_succ, i64_w, i32_w]
              rfl
             refine pure_ (i := 7) (N := some 19) (v := ?_) (a' := ?_) #[true, true, true, true, true, true, true, true] rfl rfl (any_of HT_.out z27_4) (fun _ _ _ h => h) (Or.inl ⟨by rfl, ?_⟩) ?_ ?_
             rotate_left
             ·
              exact z27_3
             rotate_left
             ·
              exact z27_0
             refine done_ (done_of HT_.out z27_4) ?_
             have p780 : 0 ≤ (x5_1 : Int) := of_decide_eq_true z27_1
             have q780 : x5_1 < (l0.length : Int) := of_decide_eq_true z27_1
             obtain ⟨ad780, e780, hx780_0, hx780_1, hx780_2, hx780_3, hx780_4, hx780_5, hx780_6, hx780_7⟩ := at_T167 HR0.out x5_1 p780 q780
             obtain rfl : ad778 = ad780 := (by injection e780)
             replace hx780_0 := (HB.out.cell (World.block_lt_of_cell? w _ hx780_0)).trans hx780_0
             replace hx780_1 := (HB.out.cell (World.block_lt_of_cell? w _ hx780_1)).trans hx780_1
             replace hx780_2 := (HB.out.cell (World.block_lt_of_cell? w _ hx780_2)).trans hx780_2
             replace hx780_3 := (HB.out.cell (World.block_lt_of_cell? w _ hx780_3)).trans hx780_3
             replace hx780_4 := (HB.out.cell (World.block_lt_of_cell? w _ hx780_4)).trans hx780_4
             replace hx780_5 := (HB.out.cell (World.block_lt_of_cell? w _ hx780_5)).trans hx780_5
             replace hx780_6 := (HB.out.cell (World.block_lt_of_cell? w _ hx780_6)).trans hx780_6
             replace hx780_7 := (HB.out.cell (World.block_lt_of_cell? w _ hx780_7)).trans hx780_7
             replace p780 := eq_true p780
             replace q780 := eq_true q780
             have p781 : 0 ≤ (x5_1 : Int) := of_decide_eq_true z27_1
             have q781 : x5_1 < (l0.length : Int) := of_decide_eq_true z27_1
             obtain ⟨ad781, e781, hx781_0, hx781_1, hx781_2, hx781_3, hx781_4, hx781_5, hx781_6, hx781_7⟩ := at_T167 HR0.out x5_1 p781 q781
             obtain rfl : ad778 = ad781 := (by injection e781)
             replace hx781_0 := (HB.out.cell (World.block_lt_of_cell? w _ hx781_0)).trans hx781_0
             replace hx781_1 := (HB.out.cell (World.block_lt_of_cell? w _ hx781_1)).trans hx781_1
             replace hx781_2 := (HB.out.cell (World.block_lt_of_cell? w _ hx781_2)).trans hx781_2
             replace hx781_3 := (HB.out.cell (World.block_lt_of_cell? w _ hx781_3)).trans hx781_3
             replace hx781_4 := (HB.out.cell (World.block_lt_of_cell? w _ hx781_4)).trans hx781_4
             replace hx781_5 := (HB.out.cell (World.block_lt_of_cell? w _ hx781_5)).trans hx781_5
             replace hx781_6 := (HB.out.cell (World.block_lt_of_cell? w _ hx781_6)).trans hx781_6
             replace hx781_7 := (HB.out.cell (World.block_lt_of_cell? w _ hx781_7)).trans hx781_7
             replace p781 := eq_true p781
             replace q781 := eq_true q781
             have p782 : 0 ≤ (x5_1 : Int) := of_decide_eq_true z27_1
             have q782 : x5_1 < (l0.length : Int) := of_decide_eq_true z27_1
             obtain ⟨ad782, e782, hx782_0, hx782_1, hx782_2, hx782_3, hx782_4, hx782_5, hx782_6, hx782_7⟩ := at_T167 HR0.out x5_1 p782 q782
             obtain rfl : ad778 = ad782 := (by injection e782)
             replace hx782_0 := (HB.out.cell (World.block_lt_of_cell? w _ hx782_0)).trans hx782_0
             replace hx782_1 := (HB.out.cell (World.block_lt_of_cell? w _ hx782_1)).trans hx782_1
             replace hx782_2 := (HB.out.cell (World.block_lt_of_cell? w _ hx782_2)).trans hx782_2
             replace hx782_3 := (HB.out.cell (World.block_lt_of_cell? w _ hx782_3)).trans hx782_3
             replace hx782_4 := (HB.out.cell (World.block_lt_of_cell? w _ hx782_4)).trans hx782_4
             replace hx782_5 := (HB.out.cell (World.block_lt_of_cell? w _ hx782_5)).trans hx782_5
             replace hx782_6 := (HB.out.cell (World.block_lt_of_cell? w _ hx782_6)).trans hx782_6
             replace hx782_7 := (HB.out.cell (World.block_lt_of_cell? w _ hx782_7)).trans hx782_7
             replace p782 := eq_true p782
             replace q782 := eq_true q782
             have p783 : 0 ≤ (x5_1 : Int) := of_decide_eq_true z27_1
             have q783 : x5_1 < (l0.length : Int) := of_decide_eq_true z27_1
             obtain ⟨ad783, e783, hx783_0, hx783_1, hx783_2, hx783_3, hx783_4, hx783_5, hx783_6, hx783_7⟩ := at_T167 HR0.out x5_1 p783 q783
             obtain rfl : ad778 = ad783 := (by injection e783)
             replace hx783_0 := (HB.out.cell (World.block_lt_of_cell? w _ hx783_0)).trans hx783_0
             replace hx783_1 := (HB.out.cell (World.block_lt_of_cell? w _ hx783_1)).trans hx783_1
             replace hx783_2 := (HB.out.cell (World.block_lt_of_cell? w _ hx783_2)).trans hx783_2
             replace hx783_3 := (HB.out.cell (World.block_lt_of_cell? w _ hx783_3)).trans hx783_3
             replace hx783_4 := (HB.out.cell (World.block_lt_of_cell? w _ hx783_4)).trans hx783_4
             replace hx783_5 := (HB.out.cell (World.block_lt_of_cell? w _ hx783_5)).trans hx783_5
             replace hx783_6 := (HB.out.cell (World.block_lt_of_cell? w _ hx783_6)).trans hx783_6
             replace hx783_7 := (HB.out.cell (World.block_lt_of_cell? w _ hx783_7)).trans hx783_7
             replace p783 := eq_true p783
             replace q783 := eq_true q783
             have p784 : 0 ≤ (x5_1 : Int) := of_decide_eq_true z27_1
             have q784 : x5_1 < (l0.length : Int) := of_decide_eq_true z27_1
             obtain ⟨ad784, e784, hx784_0, hx784_1, hx784_2, hx784_3, hx784_4, hx784_5, hx784_6, hx784_7⟩ := at_T167 HR0.out x5_1 p784 q784
             obtain rfl : ad778 = ad784 := (by injection e784)
             replace hx784_0 := (HB.out.cell (World.block_lt_of_cell? w _ hx784_0)).trans hx784_0
             replace hx784_1 := (HB.out.cell (World.block_lt_of_cell? w _ hx784_1)).trans hx784_1
             replace hx784_2 := (HB.out.cell (World.block_lt_of_cell? w _ hx784_2)).trans hx784_2
             replace hx784_3 := (HB.out.cell (World.block_lt_of_cell? w _ hx784_3)).trans hx784_3
             replace hx784_4 := (HB.out.cell (World.block_lt_of_cell? w _ hx784_4)).trans hx784_4
             replace hx784_5 := (HB.out.cell (World.block_lt_of_cell? w _ hx784_5)).trans hx784_5
             replace hx784_6 := (HB.out.cell (World.block_lt_of_cell? w _ hx784_6)).trans hx784_6
             replace hx784_7 := (HB.out.cell (World.block_lt_of_cell? w _ hx784_7)).trans hx784_7
             replace p784 := eq_true p784
             replace q784 := eq_true q784
             have p785 : 0 ≤ (x5_1 : Int) := of_decide_eq_true z27_1
             have q785 : x5_1 < (l0.length : Int) := of_decide_eq_true z27_1
             obtain ⟨ad785, e785, hx785_0, hx785_1, hx785_2, hx785_3, hx785_4, hx785_5, hx785_6, hx785_7⟩ := at_T167 HR0.out x5_1 p785 q785
             obtain rfl : ad778 = ad785 := (by injection e785)
             replace hx785_0 := (HB.out.cell (World.block_lt_of_cell? w _ hx785_0)).trans hx785_0
             replace hx785_1 := (HB.out.cell (World.block_lt_of_cell? w _ hx785_1)).trans hx785_1
             replace hx785_2 := (HB.out.cell (World.block_lt_of_cell? w _ hx785_2)).trans hx785_2
             replace hx785_3 := (HB.out.cell (World.block_lt_of_cell? w _ hx785_3)).trans hx785_3
             replace hx785_4 := (HB.out.cell (World.block_lt_of_cell? w _ hx785_4)).trans hx785_4
             replace hx785_5 := (HB.out.cell (World.block_lt_of_cell? w _ hx785_5)).trans hx785_5
             replace hx785_6 := (HB.out.cell (World.block_lt_of_cell? w _ hx785_6)).trans hx785_6
             replace hx785_7 := (HB.out.cell (World.block_lt_of_cell? w _ hx785_7)).trans hx785_7
             replace p785 := eq_true p785
             replace q785 := eq_true q785
             have p786 : 0 ≤ (x5_1 : Int) := of_decide_eq_true z27_1
             have q786 : x5_1 < (l0.length : Int) := of_decide_eq_true z27_1
             obtain ⟨ad786, e786, hx786_0, hx786_1, hx786_2, hx786_3, hx786_4, hx786_5, hx786_6, hx786_7⟩ := at_T167 HR0.out x5_1 p786 q786
             obtain rfl : ad778 = ad786 := (by injection e786)
             replace hx786_0 := (HB.out.cell (World.block_lt_of_cell? w _ hx786_0)).trans hx786_0
             replace hx786_1 := (HB.out.cell (World.block_lt_of_cell? w _ hx786_1)).trans hx786_1
             replace hx786_2 := (HB.out.cell (World.block_lt_of_cell? w _ hx786_2)).trans hx786_2
             replace hx786_3 := (HB.out.cell (World.block_lt_of_cell? w _ hx786_3)).trans hx786_3
             replace hx786_4 := (HB.out.cell (World.block_lt_of_cell? w _ hx786_4)).trans hx786_4
             replace hx786_5 := (HB.out.cell (World.block_lt_of_cell? w _ hx786_5)).trans hx786_5
             replace hx786_6 := (HB.out.cell (World.block_lt_of_cell? w _ hx786_6)).trans hx786_6
             replace hx786_7 := (HB.out.cell (World.block_lt_of_cell? w _ hx786_7)).trans hx786_7
             replace p786 := eq_true p786
             replace q786 := eq_true q786
             try go_wp2
             go_ret
             exact ⟨z27_5, z27_2⟩
            ·
             rw [if_neg c13] at H
             have c13b0 : (((rd_T167 l0 x5_1).f5) != ((Int.tmod (wrap64 ((wrap64 ((wrap64 ((wrap64 ((wrap64 ((wrap64 ((wrap64 (x1_1 + 1)) + 1)) + 1)) + 1)) + 1)) + 1)) + 1)) 3) == 0)) = false := by simpa using c13
             (try (have c13b1 : decide (((rd_T167 l0 x5_1).f5) = ((Int.tmod (wrap64 ((wrap64 ((wrap64 ((wrap64 ((wrap64 ((wrap64 ((wrap64 (x1_1 + 1)) + 1)) + 1)) + 1)) + 1)) + 1)) + 1)) 3) == 0)) = true := by simpa using c13))
             (try (have c13b2 : (((rd_T167 l0 x5_1).f5) == ((Int.tmod (wrap64 ((wrap64 ((wrap64 ((wrap64 ((wrap64 ((wrap64 ((wrap64 (x1_1 + 1)) + 1)) + 1)) + 1)) + 1)) + 1)) + 1)) 3) == 0)) = true := by simpa using c13))
             clear c13
             have H' := Aside0.mk H
             clear H
             try go_wp2
             have n0_ := Aside0.mk (below_drew1 HB.out)
             clear HB
             have HB := n0_
             clear n0_
             have p778 : 0 ≤ (x5_1 : Int) := of_decide_eq_true z27_1
             have q778 : x5_1 < (l0.length : Int) := of_decide_eq_true z27_1
             obtain ⟨ad778, e778, hx778_0, hx778_1, hx778_2, hx778_3, hx778_4, hx778_5, hx778_6, hx778_7⟩ := at_T167 HR0.out x5_1 p778 q778
             have hw778_7 := hx778_7
             have hw778_6 := hx778_6
             have hw778_5 := hx778_5
             have hw778_4 := hx778_4
             have hw778_3 := hx778_3
             have hw778_2 := hx778_2
             have hw778_1 := hx778_1
             have hw778_0 := hx778_0
             cases e778
             replace hx778_0 := (HB.out.cell (World.block_lt_of_cell? w _ hx778_0)).trans hx778_0
             replace hx778_1 := (HB.out.cell (World.block_lt_of_cell? w _ hx778_1)).trans hx778_1
             replace hx778_2 := (HB.out.cell (World.block_lt_of_cell? w _ hx778_2)).trans hx778_2
             replace hx778_3 := (HB.out.cell (World.block_lt_of_cell? w _ hx778_3)).trans hx778_3
             replace hx778_4 := (HB.out.cell (World.block_lt_of_cell? w _ hx778_4)).trans hx778_4
             replace hx778_5 := (HB.out.cell (World.block_lt_of_cell? w _ hx778_5)).trans hx778_5
             replace hx778_6 := (HB.out.cell (World.block_lt_of_cell? w _ hx778_6)).trans hx778_6
             replace hx778_7 := (HB.out.cell (World.block_lt_of_cell? w _ hx778_7)).trans hx778_7
             replace p778 := eq_true p778
             replace q778 := eq_true q778
             refine start_ (n := 8) (S := fun w' => w'.cell? (ad778.add ((x5_1).toNat * 8)) = some (.string ((rd_T167 l0 x5_1).f0)) ∧ w'.cell? ⟨(ad778.add ((x5_1).toNat * 8)).block, (ad778.add ((x5_1).toNat * 8)).off + 1, none⟩ = some (.int .i64 ((rd_T167 l0 x5_1).f1.f0)) ∧ w'.cell? ⟨(ad778.add ((x5_1).toNat * 8)).block, (ad778.add ((x5_1).toNat * 8)).off + 2, none⟩ = some (.int .i64 ((rd_T167 l0 x5_1).f1.f1)) ∧ w'.cell? ⟨(ad778.add ((x5_1).toNat * 8)).block, (ad778.add ((x5_1).toNat * 8)).off + 3, none⟩ = some (.int .i64 ((rd_T167 l0 x5_1).f2)) ∧ w'.cell? ⟨(ad778.add ((x5_1).toNat * 8)).block, (ad778.add ((x5_1).toNat * 8)).off + 4, none⟩ = some (.int .i64 ((rd_T167 l0 x5_1).f3.f0)) ∧ w'.cell? ⟨(ad778.add ((x5_1).toNat * 8)).block, (ad778.add ((x5_1).toNat * 8)).off + 5, none⟩ = some (.int .i64 ((rd_T167 l0 x5_1).f3.f1)) ∧ w'.cell? ⟨(ad778.add ((x5_1).toNat * 8)).block, (ad778.add ((x5_1).toNat * 8)).off + 6, none⟩ = some (.int .i64 ((rd_T167 l0 x5_1).f4)) ∧ w'.cell? ⟨(ad778.add ((x5_1).toNat * 8)).block, (ad778.add ((x5_1).toNat * 8)).off + 7, none⟩ = some (.bool ((rd_T167 l0 x5_1).f5))) (ds := []) #[false, false, false, false, false, false, false, false] z27_4 rfl rfl ⟨((HB.out.cell (World.block_lt_of_cell? w _ hw778_0)).trans hw778_0), ((HB.out.cell (World.block_lt_of_cell? w _ hw778_1)).trans hw778_1), ((HB.out.cell (World.block_lt_of_cell? w _ hw778_2)).trans hw778_2), ((HB.out.cell (World.block_lt_of_cell? w _ hw778_3)).trans hw778_3), ((HB.out.cell (World.block_lt_of_cell? w _ hw778_4)).trans hw778_4), ((HB.out.cell (World.block_lt_of_cell? w _ hw778_5)).trans hw778_5), ((HB.out.cell (World.block_lt_of_cell? w _ hw778_6)).trans hw778_6), ((HB.out.cell (World.block_lt_of_cell? w _ hw778_7)).trans hw778_7)⟩ (fun hHeld => ?_); refine with_tabW laws_heldCellS.tab4 laws_heldCellS.bits4 (fun HT_ HW_ => ?_)
             generalize wr.drew = w16 at HB hx778_0 hx778_1 hx778_2 hx778_3 hx778_4 hx778_5 hx778_6 hx778_7 hHeld ⊢
             refine pure_ (i := 0) (N := some 12) (v := ?_) (a' := ?_) #[true, false, false, false, false, false, false, false] rfl rfl (any_of HT_.out z27_4) (fun _ _ _ h => h) (Or.inl ⟨by rfl, ?_⟩) ?_ ?_
             rotate_left
             ·
              exact z27_3
             rotate_left
             ·
              exact z27_0
             refine pure_ (i := 1) (N := some 13) (v := ?_) (a' := ?_) #[true, true, false, false, false, false, false, false] rfl rfl (any_of HT_.out z27_4) (fun _ _ _ h => h) (Or.inl ⟨by rfl, ?_⟩) ?_ ?_
             rotate_left
             ·
              exact z27_3
             rotate_left
             ·
              exact z27_0
             refine pure_ (i := 2) (N := some 14) (v := ?_) (a' := ?_) #[true, true, true, false, false, false, false, false] rfl rfl (any_of HT_.out z27_4) (fun _ _ _ h => h) (Or.inl ⟨by rfl, ?_⟩) ?_ ?_
             rotate_left
             ·
              exact z27_3
             rotate_left
             ·
              exact z27_0
             refine pure_ (i := 3) (N := some 15) (v := ?_) (a' := ?_) #[true, true, true, true, false, false, false, false] rfl rfl (any_of HT_.out z27_4) (fun _ _ _ h => h) (Or.inl ⟨by rfl, ?_⟩) ?_ ?_
             rotate_left
             ·
              exact z27_3
             rotate_left
             ·
              exact z27_0
             refine pure_ (i := 5) (N := some 17) (v := ?_) (a' := ?_) #[true, true, true, true, false, true, false, false] rfl rfl (any_of HT_.out z27_4) (fun _ _ _ h => h) (Or.inl ⟨by rfl, ?_⟩) ?_ ?_
             rotate_left
             ·
              exact z27_3
             rotate_left
             ·
              exact z27_0
             refine take_ (i := 4) (N := some 16) (v := ?_) (a' := ?_) #[true, true, true, true, true, true, false, false] rfl rfl (take_ofW HT_.out HW_.out z27_4) (fun _ _ _ h => h) (Or.inl ⟨by rfl, ?_⟩) hHeld ?_ ?_
             rotate_left
             ·
              rintro w' ⟨s0, s1, s2, s3, s4, s5, s6, s7⟩
              go_simp
              with_reducible rfl
             rotate_left
             ·
              exact z27_0
             refine one_ (i := 6) (N := some 18) #[true, true, true, true, true, true, true, false] rfl rfl (one_of HT_.out z27_4) (by decide) (fun K hK => ?_)
             refine goes_ Try.func119 z27_4 rfl #[.int .i64 x1_1] (by rfl) rfl rfl z27_6 ?_
             with_reducible refine (laws_markText.calls k1 x1_1 t779 _ A5.out).mono ?_
             rintro e w17 ⟨rfl, hb⟩
             refine ⟨_, rfl, ?_⟩
             have n0_ := Aside0.mk (below_step z27_2 hb)
             clear HB
             have HB := n0_
             clear n0_
             (try clear hb)
             (try clear hb2)
             (try clear hk)
             (try clear hi)
             refine hK.out _ _ ⟨((HB.out.cell (World.block_lt_of_cell? w _ hw778_0)).trans hw778_0), ((HB.out.cell (World.block_lt_of_cell? w _ hw778_1)).trans hw778_1), ((HB.out.cell (World.block_lt_of_cell? w _ hw778_2)).trans hw778_2), ((HB.out.cell (World.block_lt_of_cell? w _ hw778_3)).trans hw778_3), ((HB.out.cell (World.block_lt_of_cell? w _ hw778_4)).trans hw778_4), ((HB.out.cell (World.block_lt_of_cell? w _ hw778_5)).trans hw778_5), ((HB.out.cell (World.block_lt_of_cell? w _ hw778_6)).trans hw778_6), ((HB.out.cell (World.block_lt_of_cell? w _ hw778_7)).trans hw778_7)⟩ (fun hHeld => ?_)
             clear hK K
             refine norm_ (a' := ?_) ?_ ?_
             rotate_left
             ·
              show Act.put _ (some 18) _ = _
              simp only [Act.put, List.setIfInBounds_toArray, List.set_cons_zero, List.set_cons_succ, i64_w, i32_w]
              rfl
             refine pure_ (i := 7) (N := some 19) (v := ?_) (a' := ?_) #[true, true, true, true, true, true, true, true] rfl rfl (any_of HT_.out z27_4) (fun _ _ _ h => h) (Or.inl ⟨by rfl, ?_⟩) ?_ ?_
             rotate_left
             ·
              exact z27_3
             rotate_left
             ·
              exact z27_0
             refine done_ (done_of HT_.out z27_4) ?_
             have p780 : 0 ≤ (x5_1 : Int) := of_decide_eq_true z27_1
             have q780 : x5_1 < (l0.length : Int) := of_decide_eq_true z27_1
             obtain ⟨ad780, e780, hx780_0, hx780_1, hx780_2, hx780_3, hx780_4, hx780_5, hx780_6, hx780_7⟩ := at_T167 HR0.out x5_1 p780 q780
             obtain rfl : ad778 = ad780 := (by injection e780)
             replace hx780_0 := (HB.out.cell (World.block_lt_of_cell? w _ hx780_0)).trans hx780_0
             replace hx780_1 := (HB.out.cell (World.block_lt_of_cell? w _ hx780_1)).trans hx780_1
             replace hx780_2 := (HB.out.cell (World.block_lt_of_cell? w _ hx780_2)).trans hx780_2
             replace hx780_3 := (HB.out.cell (World.block_lt_of_cell? w _ hx780_3)).trans hx780_3
             replace hx780_4 := (HB.out.cell (World.block_lt_of_cell? w _ hx780_4)).trans hx780_4
             replace hx780_5 := (HB.out.cell (World.block_lt_of_cell? w _ hx780_5)).trans hx780_5
             replace hx780_6 := (HB.out.cell (World.block_lt_of_cell? w _ hx780_6)).trans hx780_6
             replace hx780_7 := (HB.out.cell (World.block_lt_of_cell? w _ hx780_7)).trans hx780_7
             replace p780 := eq_true p780
             replace q780 := eq_true q780
             have p781 : 0 ≤ (x5_1 : Int) := of_decide_eq_true z27_1
             have q781 : x5_1 < (l0.length : Int) := of_decide_eq_true z27_1
             obtain ⟨ad781, e781, hx781_0, hx781_1, hx781_2, hx781_3, hx781_4, hx781_5, hx781_6, hx781_7⟩ := at_T167 HR0.out x5_1 p781 q781
             obtain rfl : ad778 = ad781 := (by injection e781)
             replace hx781_0 := (HB.out.cell (World.block_lt_of_cell? w _ hx781_0)).trans hx781_0
             replace hx781_1 := (HB.out.cell (World.block_lt_of_cell? w _ hx781_1)).trans hx781_1
             replace hx781_2 := (HB.out.cell (World.block_lt_of_cell? w _ hx781_2)).trans hx781_2
             replace hx781_3 := (HB.out.cell (World.block_lt_of_cell? w _ hx781_3)).trans hx781_3
             replace hx781_4 := (HB.out.cell (World.block_lt_of_cell? w _ hx781_4)).trans hx781_4
             replace hx781_5 := (HB.out.cell (World.block_lt_of_cell? w _ hx781_5)).trans hx781_5
             replace hx781_6 := (HB.out.cell (World.block_lt_of_cell? w _ hx781_6)).trans hx781_6
             replace hx781_7 := (HB.out.cell (World.block_lt_of_cell? w _ hx781_7)).trans hx781_7
             replace p781 := eq_true p781
             replace q781 := eq_true q781
             have p782 : 0 ≤ (x5_1 : Int) := of_decide_eq_true z27_1
             have q782 : x5_1 < (l0.length : Int) := of_decide_eq_true z27_1
             obtain ⟨ad782, e782, hx782_0, hx782_1, hx782_2, hx782_3, hx782_4, hx782_5, hx782_6, hx782_7⟩ := at_T167 HR0.out x5_1 p782 q782
             obtain rfl : ad778 = ad782 := (by injection e782)
             replace hx782_0 := (HB.out.cell (World.block_lt_of_cell? w _ hx782_0)).trans hx782_0
             replace hx782_1 := (HB.out.cell (World.block_lt_of_cell? w _ hx782_1)).trans hx782_1
             replace hx782_2 := (HB.out.cell (World.block_lt_of_cell? w _ hx782_2)).trans hx782_2
             replace hx782_3 := (HB.out.cell (World.block_lt_of_cell? w _ hx782_3)).trans hx782_3
             replace hx782_4 := (HB.out.cell (World.block_lt_of_cell? w _ hx782_4)).trans hx782_4
             replace hx782_5 := (HB.out.cell (World.block_lt_of_cell? w _ hx782_5)).trans hx782_5
             replace hx782_6 := (HB.out.cell (World.block_lt_of_cell? w _ hx782_6)).trans hx782_6
             replace hx782_7 := (HB.out.cell (World.block_lt_of_cell? w _ hx782_7)).trans hx782_7
             replace p782 := eq_true p782
             replace q782 := eq_true q782
             have p783 : 0 ≤ (x5_1 : Int) := of_decide_eq_true z27_1
             have q783 : x5_1 < (l0.length : Int) := of_decide_eq_true z27_1
             obtain ⟨ad783, e783, hx783_0, hx783_1, hx783_2, hx783_3, hx783_4, hx783_5, hx783_6, hx783_7⟩ := at_T167 HR0.out x5_1 p783 q783
             obtain rfl : ad778 = ad783 := (by injection e783)
             replace hx783_0 := (HB.out.cell (World.block_lt_of_cell? w _ hx783_0)).trans hx783_0
             replace hx783_1 := (HB.out.cell (World.block_lt_of_cell? w _ hx783_1)).trans hx783_1
             replace hx783_2 := (HB.out.cell (World.block_lt_of_cell? w _ hx783_2)).trans hx783_2
             replace hx783_3 := (HB.out.cell (World.block_lt_of_cell? w _ hx783_3)).trans hx783_3
             replace hx783_4 := (HB.out.cell (World.block_lt_of_cell? w _ hx783_4)).trans hx783_4
             replace hx783_5 := (HB.out.cell (World.block_lt_of_cell? w _ hx783_5)).trans hx783_5
             replace hx783_6 := (HB.out.cell (World.block_lt_of_cell? w _ hx783_6)).trans hx783_6
             replace hx783_7 := (HB.out.cell (World.block_lt_of_cell? w _ hx783_7)).trans hx783_7
             replace p783 := eq_true p783
             replace q783 := eq_true q783
             have p784 : 0 ≤ (x5_1 : Int) := of_decide_eq_true z27_1
             have q784 : x5_1 < (l0.length : Int) := of_decide_eq_true z27_1
             obtain ⟨ad784, e784, hx784_0, hx784_1, hx784_2, hx784_3, hx784_4, hx784_5, hx784_6, hx784_7⟩ := at_T167 HR0.out x5_1 p784 q784
             obtain rfl : ad778 = ad784 := (by injection e784)
             replace hx784_0 := (HB.out.cell (World.block_lt_of_cell? w _ hx784_0)).trans hx784_0
             replace hx784_1 := (HB.out.cell (World.block_lt_of_cell? w _ hx784_1)).trans hx784_1
             replace hx784_2 := (HB.out.cell (World.block_lt_of_cell? w _ hx784_2)).trans hx784_2
             replace hx784_3 := (HB.out.cell (World.block_lt_of_cell? w _ hx784_3)).trans hx784_3
             replace hx784_4 := (HB.out.cell (World.block_lt_of_cell? w _ hx784_4)).trans hx784_4
             replace hx784_5 := (HB.out.cell (World.block_lt_of_cell? w _ hx784_5)).trans hx784_5
             replace hx784_6 := (HB.out.cell (World.block_lt_of_cell? w _ hx784_6)).trans hx784_6
             replace hx784_7 := (HB.out.cell (World.block_lt_of_cell? w _ hx784_7)).trans hx784_7
             replace p784 := eq_true p784
             replace q784 := eq_true q784
             have p785 : 0 ≤ (x5_1 : Int) := of_decide_eq_true z27_1
             have q785 : x5_1 < (l0.length : Int) := of_decide_eq_true z27_1
             obtain ⟨ad785, e785, hx785_0, hx785_1, hx785_2, hx785_3, hx785_4, hx785_5, hx785_6, hx785_7⟩ := at_T167 HR0.out x5_1 p785 q785
             obtain rfl : ad778 = ad785 := (by injection e785)
             replace hx785_0 := (HB.out.cell (World.block_lt_of_cell? w _ hx785_0)).trans hx785_0
             replace hx785_1 := (HB.out.cell (World.block_lt_of_cell? w _ hx785_1)).trans hx785_1
             replace hx785_2 := (HB.out.cell (World.block_lt_of_cell? w _ hx785_2)).trans hx785_2
             replace hx785_3 := (HB.out.cell (World.block_lt_of_cell? w _ hx785_3)).trans hx785_3
             replace hx785_4 := (HB.out.cell (World.block_lt_of_cell? w _ hx785_4)).trans hx785_4
             replace hx785_5 := (HB.out.cell (World.block_lt_of_cell? w _ hx785_5)).trans hx785_5
             replace hx785_6 := (HB.out.cell (World.block_lt_of_cell? w _ hx785_6)).trans hx785_6
             replace hx785_7 := (HB.out.cell (World.block_lt_of_cell? w _ hx785_7)).trans hx785_7
             replace p785 := eq_true p785
             replace q785 := eq_true q785
             have p786 : 0 ≤ (x5_1 : Int) := of_decide_eq_true z27_1
             have q786 : x5_1 < (l0.length : Int) := of_decide_eq_true z27_1
             obtain ⟨ad786, e786, hx786_0, hx786_1, hx786_2, hx786_3, hx786_4, hx786_5, hx786_6, hx786_7⟩ := at_T167 HR0.out x5_1 p786 q786
             obtain rfl : ad778 = ad786 := (by injection e786)
             replace hx786_0 := (HB.out.cell (World.block_lt_of_cell? w _ hx786_0)).trans hx786_0
             replace hx786_1 := (HB.out.cell (World.block_lt_of_cell? w _ hx786_1)).trans hx786_1
             replace hx786_2 := (HB.out.cell (World.block_lt_of_cell? w _ hx786_2)).trans hx786_2
             replace hx786_3 := (HB.out.cell (World.block_lt_of_cell? w _ hx786_3)).trans hx786_3
             replace hx786_4 := (HB.out.cell (World.block_lt_of_cell? w _ hx786_4)).trans hx786_4
             replace hx786_5 := (HB.out.cell (World.block_lt_of_cell? w _ hx786_5)).trans hx786_5
             replace hx786_6 := (HB.out.cell (World.block_lt_of_cell? w _ hx786_6)).trans hx786_6
             replace hx786_7 := (HB.out.cell (World.block_lt_of_cell? w _ hx786_7)).trans hx786_7
             replace p786 := eq_true p786
             replace q786 := eq_true q786
             try go_wp2
             go_roundg k1
             case measure => have := HK1.out; omega
             case rel => exact ⟨(wrap64 ((wrap64 ((wrap64 ((wrap64 ((wrap64 ((wrap64 ((wrap64 ((wrap64 (x1_1 + 1)) + 1)) + 1)) + 1)) + 1)) + 1)) + 1)) + 1)), (wrap64 (x5_1 + 1)), z27_7, z27_7, H', ⟨by have := HK1.out; omega⟩, ⟨z27_2⟩⟩
           ·
            rw [if_neg c12] at H
            have c12b0 : (((rd_T167 l0 x5_1).f4) == (wrap64 ((wrap64 ((wrap64 ((wrap64 ((wrap64 ((wrap64 (x1_1 + 1)) + 1)) + 1)) + 1)) + 1)) + 1))) = false := beq_eq_false_iff_ne.mpr c12
            have c12b1 : (((rd_T167 l0 x5_1).f4) != (wrap64 ((wrap64 ((wrap64 ((wrap64 ((wrap64 ((wrap64 (x1_1 + 1)) + 1)) + 1)) + 1)) + 1)) + 1))) = true := bne_iff_ne.mpr c12
            obtain rfl := Option.some.inj H
            try go_wp2
            have n0_ := Aside0.mk (below_drew1 HB.out)
            clear HB
            have HB := n0_
            clear n0_
            have p778 : 0 ≤ (x5_1 : Int) := of_decide_eq_true z27_1
            have q778 : x5_1 < (l0.length : Int) := of_decide_eq_true z27_1
            obtain ⟨ad778, e778, hx778_0, hx778_1, hx778_2, hx778_3, hx778_4, hx778_5, hx778_6, hx778_7⟩ := at_T167 HR0.out x5_1 p778 q778
            have hw778_7 := hx778_7
            have hw778_6 := hx778_6
            have hw778_5 := hx778_5
            have hw778_4 := hx778_4
            have hw778_3 := hx778_3
            have hw778_2 := hx778_2
            have hw778_1 := hx778_1
            have hw778_0 := hx778_0
            cases e778
            replace hx778_0 := (HB.out.cell (World.block_lt_of_cell? w _ hx778_0)).trans hx778_0
            replace hx778_1 := (HB.out.cell (World.block_lt_of_cell? w _ hx778_1)).trans hx778_1
            replace hx778_2 := (HB.out.cell (World.block_lt_of_cell? w _ hx778_2)).trans hx778_2
            replace hx778_3 := (HB.out.cell (World.block_lt_of_cell? w _ hx778_3)).trans hx778_3
            replace hx778_4 := (HB.out.cell (World.block_lt_of_cell? w _ hx778_4)).trans hx778_4
            replace hx778_5 := (HB.out.cell (World.block_lt_of_cell? w _ hx778_5)).trans hx778_5
            replace hx778_6 := (HB.out.cell (World.block_lt_of_cell? w _ hx778_6)).trans hx778_6
            replace hx778_7 := (HB.out.cell (World.block_lt_of_cell? w _ hx778_7)).trans hx778_7
            replace p778 := eq_true p778
            replace q778 := eq_true q778
            refine start_ (n := 8) (S := fun w' => w'.cell? (ad778.add ((x5_1).toNat * 8)) = some (.string ((rd_T167 l0 x5_1).f0)) ∧ w'.cell? ⟨(ad778.add ((x5_1).toNat * 8)).block, (ad778.add ((x5_1).toNat * 8)).off + 1, none⟩ = some (.int .i64 ((rd_T167 l0 x5_1).f1.f0)) ∧ w'.cell? ⟨(ad778.add ((x5_1).toNat * 8)).block, (ad778.add ((x5_1).toNat * 8)).off + 2, none⟩ = some (.int .i64 ((rd_T167 l0 x5_1).f1.f1)) ∧ w'.cell? ⟨(ad778.add ((x5_1).toNat * 8)).block, (ad778.add ((x5_1).toNat * 8)).off + 3, none⟩ = some (.int .i64 ((rd_T167 l0 x5_1).f2)) ∧ w'.cell? ⟨(ad778.add ((x5_1).toNat * 8)).block, (ad778.add ((x5_1).toNat * 8)).off + 4, none⟩ = some (.int .i64 ((rd_T167 l0 x5_1).f3.f0)) ∧ w'.cell? ⟨(ad778.add ((x5_1).toNat * 8)).block, (ad778.add ((x5_1).toNat * 8)).off + 5, none⟩ = some (.int .i64 ((rd_T167 l0 x5_1).f3.f1)) ∧ w'.cell? ⟨(ad778.add ((x5_1).toNat * 8)).block, (ad778.add ((x5_1).toNat * 8)).off + 6, none⟩ = some (.int .i64 ((rd_T167 l0 x5_1).f4)) ∧ w'.cell? ⟨(ad778.add ((x5_1).toNat * 8)).block, (ad778.add ((x5_1).toNat * 8)).off + 7, none⟩ = some (.bool ((rd_T167 l0 x5_1).f5))) (ds := []) #[false, false, false, false, false, false, false, false] z27_4 rfl rfl ⟨((HB.out.cell (World.block_lt_of_cell? w _ hw778_0)).trans hw778_0), ((HB.out.cell (World.block_lt_of_cell? w _ hw778_1)).trans hw778_1), ((HB.out.cell (World.block_lt_of_cell? w _ hw778_2)).trans hw778_2), ((HB.out.cell (World.block_lt_of_cell? w _ hw778_3)).trans hw778_3), ((HB.out.cell (World.block_lt_of_cell? w _ hw778_4)).trans hw778_4), ((HB.out.cell (World.block_lt_of_cell? w _ hw778_5)).trans hw778_5), ((HB.out.cell (World.block_lt_of_cell? w _ hw778_6)).trans hw778_6), ((HB.out.cell (World.block_lt_of_cell? w _ hw778_7)).trans hw778_7)⟩ (fun hHeld => ?_); refine with_tabW laws_heldCellS.tab4 laws_heldCellS.bits4 (fun HT_ HW_ => ?_)
            generalize wr.drew = w18 at HB hx778_0 hx778_1 hx778_2 hx778_3 hx778_4 hx778_5 hx778_6 hx778_7 hHeld ⊢
            refine pure_ (i := 0) (N := some 12) (v := ?_) (a' := ?_) #[true, false, false, false, false, false, false, false] rfl rfl (any_of HT_.out z27_4) (fun _ _ _ h => h) (Or.inl ⟨by rfl, ?_⟩) ?_ ?_
            rotate_left
            ·
             exact z27_3
            rotate_left
            ·
             exact z27_0
            refine pure_ (i := 1) (N := some 13) (v := ?_) (a' := ?_) #[true, true, false, false, false, false, false, false] rfl rfl (any_of HT_.out z27_4) (fun _ _ _ h => h) (Or.inl ⟨by rfl, ?_⟩) ?_ ?_
            rotate_left
            ·
             exact z27_3
            rotate_left
            ·
             exact z27_0
            refine pure_ (i := 2) (N := some 14) (v := ?_) (a' := ?_) #[true, true, true, false, false, false, false, false] rfl rfl (any_of HT_.out z27_4) (fun _ _ _ h => h) (Or.inl ⟨by rfl, ?_⟩) ?_ ?_
            rotate_left
            ·
             exact z27_3
            rotate_left
            ·
             exact z27_0
            refine pure_ (i := 3) (N := some 15) (v := ?_) (a' := ?_) #[true, true, true, true, false, false, false, false] rfl rfl (any_of HT_.out z27_4) (fun _ _ _ h => h) (Or.inl ⟨by rfl, ?_⟩) ?_ ?_
            rotate_left
            ·
             exact z27_3
            rotate_left
            ·
             exact z27_0
            refine pure_ (i := 5) (N := some 17) (v := ?_) (a' := ?_) #[true, true, true, true, false, true, false, false] rfl rfl (any_of HT_.out z27_4) (fun _ _ _ h => h) (Or.inl ⟨by rfl, ?_⟩) ?_ ?_
            rotate_left
            ·
             exact z27_3
            rotate_left
            ·
             exact z27_0
            refine take_ (i := 4) (N := some 16) (v := ?_) (a' := ?_) #[true, true, true, true, true, true, false, false] rfl rfl (take_ofW HT_.out HW_.out z27_4) (fun _ _ _ h => h) (Or.inl ⟨by rfl, ?_⟩) hHeld ?_ ?_
            rotate_left
            ·
             rintro w' ⟨s0, s1, s2, s3, s4, s5, s6, s7⟩
             go_simp
             with_reducible rfl
            rotate_left
            ·
             exact z27_0
            refine one_ (i := 6) (N := some 18) #[true, true, true, true, true, true, true, false] rfl rfl (one_of HT_.out z27_4) (by decide) (fun K hK => ?_)
            refine goes_ Try.func119 z27_4 rfl #[.int .i64 x1_1] (by rfl) rfl rfl z27_6 ?_
            with_reducible refine (laws_markText.calls k1 x1_1 t779 _ A5.out).mono ?_
            rintro e w19 ⟨rfl, hb⟩
            refine ⟨_, rfl, ?_⟩
            have n0_ := Aside0.mk (below_step z27_2 hb)
            clear HB
            have HB := n0_
            clear n0_
            (try clear hb)
            (try clear hb2)
            (try clear hk)
            (try clear hi)
            refine hK.out _ _ ⟨((HB.out.cell (World.block_lt_of_cell? w _ hw778_0)).trans hw778_0), ((HB.out.cell (World.block_lt_of_cell? w _ hw778_1)).trans hw778_1), ((HB.out.cell (World.block_lt_of_cell? w _ hw778_2)).trans hw778_2), ((HB.out.cell (World.block_lt_of_cell? w _ hw778_3)).trans hw778_3), ((HB.out.cell (World.block_lt_of_cell? w _ hw778_4)).trans hw778_4), ((HB.out.cell (World.block_lt_of_cell? w _ hw778_5)).trans hw778_5), ((HB.out.cell (World.block_lt_of_cell? w _ hw778_6)).trans hw778_6), ((HB.out.cell (World.block_lt_of_cell? w _ hw778_7)).trans hw778_7)⟩ (fun hHeld => ?_)
            clear hK K
            refine norm_ (a' := ?_) ?_ ?_
            rotate_left
            ·
             show Act.put _ (some 18) _ = _
             simp only [Act.put, List.setIfInBounds_toArray, List.set_cons_zero, List.set_cons_succ, i64_w, i32_w]
             rfl
            refine pure_ (i := 7) (N := some 19) (v := ?_) (a' := ?_) #[true, true, true, true, true, true, true, true] rfl rfl (any_of HT_.out z27_4) (fun _ _ _ h => h) (Or.inl ⟨by rfl, ?_⟩) ?_ ?_
            rotate_left
            ·
             exact z27_3
            rotate_left
            ·
             exact z27_0
            refine done_ (done_of HT_.out z27_4) ?_
            have p780 : 0 ≤ (x5_1 : Int) := of_decide_eq_true z27_1
            have q780 : x5_1 < (l0.length : Int) := of_decide_eq_true z27_1
            obtain ⟨ad780, e780, hx780_0, hx780_1, hx780_2, hx780_3, hx780_4, hx780_5, hx780_6, hx780_7⟩ := at_T167 HR0.out x5_1 p780 q780
            obtain rfl : ad778 = ad780 := (by injection e780)
            replace hx780_0 := (HB.out.cell (World.block_lt_of_cell? w _ hx780_0)).trans hx780_0
            replace hx780_1 := (HB.out.cell (World.block_lt_of_cell? w _ hx780_1)).trans hx780_1
            replace hx780_2 := (HB.out.cell (World.block_lt_of_cell? w _ hx780_2)).trans hx780_2
            replace hx780_3 := (HB.out.cell (World.block_lt_of_cell? w _ hx780_3)).trans hx780_3
            replace hx780_4 := (HB.out.cell (World.block_lt_of_cell? w _ hx780_4)).trans hx780_4
            replace hx780_5 := (HB.out.cell (World.block_lt_of_cell? w _ hx780_5)).trans hx780_5
            replace hx780_6 := (HB.out.cell (World.block_lt_of_cell? w _ hx780_6)).trans hx780_6
            replace hx780_7 := (HB.out.cell (World.block_lt_of_cell? w _ hx780_7)).trans hx780_7
            replace p780 := eq_true p780
            replace q780 := eq_true q780
            have p781 : 0 ≤ (x5_1 : Int) := of_decide_eq_true z27_1
            have q781 : x5_1 < (l0.length : Int) := of_decide_eq_true z27_1
            obtain ⟨ad781, e781, hx781_0, hx781_1, hx781_2, hx781_3, hx781_4, hx781_5, hx781_6, hx781_7⟩ := at_T167 HR0.out x5_1 p781 q781
            obtain rfl : ad778 = ad781 := (by injection e781)
            replace hx781_0 := (HB.out.cell (World.block_lt_of_cell? w _ hx781_0)).trans hx781_0
            replace hx781_1 := (HB.out.cell (World.block_lt_of_cell? w _ hx781_1)).trans hx781_1
            replace hx781_2 := (HB.out.cell (World.block_lt_of_cell? w _ hx781_2)).trans hx781_2
            replace hx781_3 := (HB.out.cell (World.block_lt_of_cell? w _ hx781_3)).trans hx781_3
            replace hx781_4 := (HB.out.cell (World.block_lt_of_cell? w _ hx781_4)).trans hx781_4
            replace hx781_5 := (HB.out.cell (World.block_lt_of_cell? w _ hx781_5)).trans hx781_5
            replace hx781_6 := (HB.out.cell (World.block_lt_of_cell? w _ hx781_6)).trans hx781_6
            replace hx781_7 := (HB.out.cell (World.block_lt_of_cell? w _ hx781_7)).trans hx781_7
            replace p781 := eq_true p781
            replace q781 := eq_true q781
            have p782 : 0 ≤ (x5_1 : Int) := of_decide_eq_true z27_1
            have q782 : x5_1 < (l0.length : Int) := of_decide_eq_true z27_1
            obtain ⟨ad782, e782, hx782_0, hx782_1, hx782_2, hx782_3, hx782_4, hx782_5, hx782_6, hx782_7⟩ := at_T167 HR0.out x5_1 p782 q782
            obtain rfl : ad778 = ad782 := (by injection e782)
            replace hx782_0 := (HB.out.cell (World.block_lt_of_cell? w _ hx782_0)).trans hx782_0
            replace hx782_1 := (HB.out.cell (World.block_lt_of_cell? w _ hx782_1)).trans hx782_1
            replace hx782_2 := (HB.out.cell (World.block_lt_of_cell? w _ hx782_2)).trans hx782_2
            replace hx782_3 := (HB.out.cell (World.block_lt_of_cell? w _ hx782_3)).trans hx782_3
            replace hx782_4 := (HB.out.cell (World.block_lt_of_cell? w _ hx782_4)).trans hx782_4
            replace hx782_5 := (HB.out.cell (World.block_lt_of_cell? w _ hx782_5)).trans hx782_5
            replace hx782_6 := (HB.out.cell (World.block_lt_of_cell? w _ hx782_6)).trans hx782_6
            replace hx782_7 := (HB.out.cell (World.block_lt_of_cell? w _ hx782_7)).trans hx782_7
            replace p782 := eq_true p782
            replace q782 := eq_true q782
            have p783 : 0 ≤ (x5_1 : Int) := of_decide_eq_true z27_1
            have q783 : x5_1 < (l0.length : Int) := of_decide_eq_true z27_1
            obtain ⟨ad783, e783, hx783_0, hx783_1, hx783_2, hx783_3, hx783_4, hx783_5, hx783_6, hx783_7⟩ := at_T167 HR0.out x5_1 p783 q783
            obtain rfl : ad778 = ad783 := (by injection e783)
            replace hx783_0 := (HB.out.cell (World.block_lt_of_cell? w _ hx783_0)).trans hx783_0
            replace hx783_1 := (HB.out.cell (World.block_lt_of_cell? w _ hx783_1)).trans hx783_1
            replace hx783_2 := (HB.out.cell (World.block_lt_of_cell? w _ hx783_2)).trans hx783_2
            replace hx783_3 := (HB.out.cell (World.block_lt_of_cell? w _ hx783_3)).trans hx783_3
            replace hx783_4 := (HB.out.cell (World.block_lt_of_cell? w _ hx783_4)).trans hx783_4
            replace hx783_5 := (HB.out.cell (World.block_lt_of_cell? w _ hx783_5)).trans hx783_5
            replace hx783_6 := (HB.out.cell (World.block_lt_of_cell? w _ hx783_6)).trans hx783_6
            replace hx783_7 := (HB.out.cell (World.block_lt_of_cell? w _ hx783_7)).trans hx783_7
            replace p783 := eq_true p783
            replace q783 := eq_true q783
            have p784 : 0 ≤ (x5_1 : Int) := of_decide_eq_true z27_1
            have q784 : x5_1 < (l0.length : Int) := of_decide_eq_true z27_1
            obtain ⟨ad784, e784, hx784_0, hx784_1, hx784_2, hx784_3, hx784_4, hx784_5, hx784_6, hx784_7⟩ := at_T167 HR0.out x5_1 p784 q784
            obtain rfl : ad778 = ad784 := (by injection e784)
            replace hx784_0 := (HB.out.cell (World.block_lt_of_cell? w _ hx784_0)).trans hx784_0
            replace hx784_1 := (HB.out.cell (World.block_lt_of_cell? w _ hx784_1)).trans hx784_1
            replace hx784_2 := (HB.out.cell (World.block_lt_of_cell? w _ hx784_2)).trans hx784_2
            replace hx784_3 := (HB.out.cell (World.block_lt_of_cell? w _ hx784_3)).trans hx784_3
            replace hx784_4 := (HB.out.cell (World.block_lt_of_cell? w _ hx784_4)).trans hx784_4
            replace hx784_5 := (HB.out.cell (World.block_lt_of_cell? w _ hx784_5)).trans hx784_5
            replace hx784_6 := (HB.out.cell (World.block_lt_of_cell? w _ hx784_6)).trans hx784_6
            replace hx784_7 := (HB.out.cell (World.block_lt_of_cell? w _ hx784_7)).trans hx784_7
            replace p784 := eq_true p784
            replace q784 := eq_true q784
            have p785 : 0 ≤ (x5_1 : Int) := of_decide_eq_true z27_1
            have q785 : x5_1 < (l0.length : Int) := of_decide_eq_true z27_1
            obtain ⟨ad785, e785, hx785_0, hx785_1, hx785_2, hx785_3, hx785_4, hx785_5, hx785_6, hx785_7⟩ := at_T167 HR0.out x5_1 p785 q785
            obtain rfl : ad778 = ad785 := (by injection e785)
            replace hx785_0 := (HB.out.cell (World.block_lt_of_cell? w _ hx785_0)).trans hx785_0
            replace hx785_1 := (HB.out.cell (World.block_lt_of_cell? w _ hx785_1)).trans hx785_1
            replace hx785_2 := (HB.out.cell (World.block_lt_of_cell? w _ hx785_2)).trans hx785_2
            replace hx785_3 := (HB.out.cell (World.block_lt_of_cell? w _ hx785_3)).trans hx785_3
            replace hx785_4 := (HB.out.cell (World.block_lt_of_cell? w _ hx785_4)).trans hx785_4
            replace hx785_5 := (HB.out.cell (World.block_lt_of_cell? w _ hx785_5)).trans hx785_5
            replace hx785_6 := (HB.out.cell (World.block_lt_of_cell? w _ hx785_6)).trans hx785_6
            replace hx785_7 := (HB.out.cell (World.block_lt_of_cell? w _ hx785_7)).trans hx785_7
            replace p785 := eq_true p785
            replace q785 := eq_true q785
            try go_wp2
            go_ret
            exact ⟨z27_5, z27_2⟩
          ·
           rw [if_neg c11] at H
           have c11b0 : (((rd_T167 l0 x5_1).f3.f1) == (wrap64 ((wrap64 ((wrap64 ((wrap64 ((wrap64 (x1_1 + 1)) + 1)) + 1)) + 1)) + 1))) = false := beq_eq_false_iff_ne.mpr c11
           have c11b1 : (((rd_T167 l0 x5_1).f3.f1) != (wrap64 ((wrap64 ((wrap64 ((wrap64 ((wrap64 (x1_1 + 1)) + 1)) + 1)) + 1)) + 1))) = true := bne_iff_ne.mpr c11
           obtain rfl := Option.some.inj H
           try go_wp2
           have n0_ := Aside0.mk (below_drew1 HB.out)
           clear HB
           have HB := n0_
           clear n0_
           have p778 : 0 ≤ (x5_1 : Int) := of_decide_eq_true z27_1
           have q778 : x5_1 < (l0.length : Int) := of_decide_eq_true z27_1
           obtain ⟨ad778, e778, hx778_0, hx778_1, hx778_2, hx778_3, hx778_4, hx778_5, hx778_6, hx778_7⟩ := at_T167 HR0.out x5_1 p778 q778
           have hw778_7 := hx778_7
           have hw778_6 := hx778_6
           have hw778_5 := hx778_5
           have hw778_4 := hx778_4
           have hw778_3 := hx778_3
           have hw778_2 := hx778_2
           have hw778_1 := hx778_1
           have hw778_0 := hx778_0
           cases e778
           replace hx778_0 := (HB.out.cell (World.block_lt_of_cell? w _ hx778_0)).trans hx778_0
           replace hx778_1 := (HB.out.cell (World.block_lt_of_cell? w _ hx778_1)).trans hx778_1
           replace hx778_2 := (HB.out.cell (World.block_lt_of_cell? w _ hx778_2)).trans hx778_2
           replace hx778_3 := (HB.out.cell (World.block_lt_of_cell? w _ hx778_3)).trans hx778_3
           replace hx778_4 := (HB.out.cell (World.block_lt_of_cell? w _ hx778_4)).trans hx778_4
           replace hx778_5 := (HB.out.cell (World.block_lt_of_cell? w _ hx778_5)).trans hx778_5
           replace hx778_6 := (HB.out.cell (World.block_lt_of_cell? w _ hx778_6)).trans hx778_6
           replace hx778_7 := (HB.out.cell (World.block_lt_of_cell? w _ hx778_7)).trans hx778_7
           replace p778 := eq_true p778
           replace q778 := eq_true q778
           refine start_ (n := 8) (S := fun w' => w'.cell? (ad778.add ((x5_1).toNat * 8)) = some (.string ((rd_T167 l0 x5_1).f0)) ∧ w'.cell? ⟨(ad778.add ((x5_1).toNat * 8)).block, (ad778.add ((x5_1).toNat * 8)).off + 1, none⟩ = some (.int .i64 ((rd_T167 l0 x5_1).f1.f0)) ∧ w'.cell? ⟨(ad778.add ((x5_1).toNat * 8)).block, (ad778.add ((x5_1).toNat * 8)).off + 2, none⟩ = some (.int .i64 ((rd_T167 l0 x5_1).f1.f1)) ∧ w'.cell? ⟨(ad778.add ((x5_1).toNat * 8)).block, (ad778.add ((x5_1).toNat * 8)).off + 3, none⟩ = some (.int .i64 ((rd_T167 l0 x5_1).f2)) ∧ w'.cell? ⟨(ad778.add ((x5_1).toNat * 8)).block, (ad778.add ((x5_1).toNat * 8)).off + 4, none⟩ = some (.int .i64 ((rd_T167 l0 x5_1).f3.f0)) ∧ w'.cell? ⟨(ad778.add ((x5_1).toNat * 8)).block, (ad778.add ((x5_1).toNat * 8)).off + 5, none⟩ = some (.int .i64 ((rd_T167 l0 x5_1).f3.f1)) ∧ w'.cell? ⟨(ad778.add ((x5_1).toNat * 8)).block, (ad778.add ((x5_1).toNat * 8)).off + 6, none⟩ = some (.int .i64 ((rd_T167 l0 x5_1).f4)) ∧ w'.cell? ⟨(ad778.add ((x5_1).toNat * 8)).block, (ad778.add ((x5_1).toNat * 8)).off + 7, none⟩ = some (.bool ((rd_T167 l0 x5_1).f5))) (ds := []) #[false, false, false, false, false, false, false, false] z27_4 rfl rfl ⟨((HB.out.cell (World.block_lt_of_cell? w _ hw778_0)).trans hw778_0), ((HB.out.cell (World.block_lt_of_cell? w _ hw778_1)).trans hw778_1), ((HB.out.cell (World.block_lt_of_cell? w _ hw778_2)).trans hw778_2), ((HB.out.cell (World.block_lt_of_cell? w _ hw778_3)).trans hw778_3), ((HB.out.cell (World.block_lt_of_cell? w _ hw778_4)).trans hw778_4), ((HB.out.cell (World.block_lt_of_cell? w _ hw778_5)).trans hw778_5), ((HB.out.cell (World.block_lt_of_cell? w _ hw778_6)).trans hw778_6), ((HB.out.cell (World.block_lt_of_cell? w _ hw778_7)).trans hw778_7)⟩ (fun hHeld => ?_); refine with_tabW laws_heldCellS.tab4 laws_heldCellS.bits4 (fun HT_ HW_ => ?_)
           generalize wr.drew = w20 at HB hx778_0 hx778_1 hx778_2 hx778_3 hx778_4 hx778_5 hx778_6 hx778_7 hHeld ⊢
           refine pure_ (i := 0) (N := some 12) (v := ?_) (a' := ?_) #[true, false, false, false, false, false, false, false] rfl rfl (any_of HT_.out z27_4) (fun _ _ _ h => h) (Or.inl ⟨by rfl, ?_⟩) ?_ ?_
           rotate_left
           ·
            exact z27_3
           rotate_left
           ·
            exact z27_0
           refine pure_ (i := 1) (N := some 13) (v := ?_) (a' := ?_) #[true, true, false, false, false, false, false, false] rfl rfl (any_of HT_.out z27_4) (fun _ _ _ h => h) (Or.inl ⟨by rfl, ?_⟩) ?_ ?_
           rotate_left
           ·
            exact z27_3
           rotate_left
           ·
            exact z27_0
           refine pure_ (i := 2) (N := some 14) (v := ?_) (a' := ?_) #[true, true, true, false, false, false, false, false] rfl rfl (any_of HT_.out z27_4) (fun _ _ _ h => h) (Or.inl ⟨by rfl, ?_⟩) ?_ ?_
           rotate_left
           ·
            exact z27_3
           rotate_left
           ·
            exact z27_0
           refine pure_ (i := 3) (N := some 15) (v := ?_) (a' := ?_) #[true, true, true, true, false, false, false, false] rfl rfl (any_of HT_.out z27_4) (fun _ _ _ h => h) (Or.inl ⟨by rfl, ?_⟩) ?_ ?_
           rotate_left
           ·
            exact z27_3
           rotate_left
           ·
            exact z27_0
           refine pure_ (i := 5) (N := some 17) (v := ?_) (a' := ?_) #[true, true, true, true, false, true, false, false] rfl rfl (any_of HT_.out z27_4) (fun _ _ _ h => h) (Or.inl ⟨by rfl, ?_⟩) ?_ ?_
           rotate_left
           ·
            exact z27_3
           rotate_left
           ·
            exact z27_0
           refine take_ (i := 4) (N := some 16) (v := ?_) (a' := ?_) #[true, true, true, true, true, true, false, false] rfl rfl (take_ofW HT_.out HW_.out z27_4) (fun _ _ _ h => h) (Or.inl ⟨by rfl, ?_⟩) hHeld ?_ ?_
           rotate_left
           ·
            rintro w' ⟨s0, s1, s2, s3, s4, s5, s6, s7⟩
            go_simp
            with_reducible rfl
           rotate_left
           ·
            exact z27_0
           refine one_ (i := 6) (N := some 18) #[true, true, true, true, true, true, true, false] rfl rfl (one_of HT_.out z27_4) (by decide) (fun K hK => ?_)
           refine goes_ Try.func119 z27_4 rfl #[.int .i64 x1_1] (by rfl) rfl rfl z27_6 ?_
           with_reducible refine (laws_markText.calls k1 x1_1 t779 _ A5.out).mono ?_
           rintro e w21 ⟨rfl, hb⟩
           refine ⟨_, rfl, ?_⟩
           have n0_ := Aside0.mk (below_step z27_2 hb)
           clear HB
           have HB := n0_
           clear n0_
           (try clear hb)
           (try clear hb2)
           (try clear hk)
           (try clear hi)
           refine hK.out _ _ ⟨((HB.out.cell (World.block_lt_of_cell? w _ hw778_0)).trans hw778_0), ((HB.out.cell (World.block_lt_of_cell? w _ hw778_1)).trans hw778_1), ((HB.out.cell (World.block_lt_of_cell? w _ hw778_2)).trans hw778_2), ((HB.out.cell (World.block_lt_of_cell? w _ hw778_3)).trans hw778_3), ((HB.out.cell (World.block_lt_of_cell? w _ hw778_4)).trans hw778_4), ((HB.out.cell (World.block_lt_of_cell? w _ hw778_5)).trans hw778_5), ((HB.out.cell (World.block_lt_of_cell? w _ hw778_6)).trans hw778_6), ((HB.out.cell (World.block_lt_of_cell? w _ hw778_7)).trans hw778_7)⟩ (fun hHeld => ?_)
           clear hK K
           refine norm_ (a' := ?_) ?_ ?_
           rotate_left
           ·
            show Act.put _ (some 18) _ = _
            simp only [Act.put, List.setIfInBounds_toArray, List.set_cons_zero, List.set_cons_succ, i64_w, i32_w]
            rfl
           refine pure_ (i := 7) (N := some 19) (v := ?_) (a' := ?_) #[true, true, true, true, true, true, true, true] rfl rfl (any_of HT_.out z27_4) (fun _ _ _ h => h) (Or.inl ⟨by rfl, ?_⟩) ?_ ?_
           rotate_left
           ·
            exact z27_3
           rotate_left
           ·
            exact z27_0
           refine done_ (done_of HT_.out z27_4) ?_
           have p780 : 0 ≤ (x5_1 : Int) := of_decide_eq_true z27_1
           have q780 : x5_1 < (l0.length : Int) := of_decide_eq_true z27_1
           obtain ⟨ad780, e780, hx780_0, hx780_1, hx780_2, hx780_3, hx780_4, hx780_5, hx780_6, hx780_7⟩ := at_T167 HR0.out x5_1 p780 q780
           obtain rfl : ad778 = ad780 := (by injection e780)
           replace hx780_0 := (HB.out.cell (World.block_lt_of_cell? w _ hx780_0)).trans hx780_0
           replace hx780_1 := (HB.out.cell (World.block_lt_of_cell? w _ hx780_1)).trans hx780_1
           replace hx780_2 := (HB.out.cell (World.block_lt_of_cell? w _ hx780_2)).trans hx780_2
           replace hx780_3 := (HB.out.cell (World.block_lt_of_cell? w _ hx780_3)).trans hx780_3
           replace hx780_4 := (HB.out.cell (World.block_lt_of_cell? w _ hx780_4)).trans hx780_4
           replace hx780_5 := (HB.out.cell (World.block_lt_of_cell? w _ hx780_5)).trans hx780_5
           replace hx780_6 := (HB.out.cell (World.block_lt_of_cell? w _ hx780_6)).trans hx780_6
           replace hx780_7 := (HB.out.cell (World.block_lt_of_cell? w _ hx780_7)).trans hx780_7
           replace p780 := eq_true p780
           replace q780 := eq_true q780
           have p781 : 0 ≤ (x5_1 : Int) := of_decide_eq_true z27_1
           have q781 : x5_1 < (l0.length : Int) := of_decide_eq_true z27_1
           obtain ⟨ad781, e781, hx781_0, hx781_1, hx781_2, hx781_3, hx781_4, hx781_5, hx781_6, hx781_7⟩ := at_T167 HR0.out x5_1 p781 q781
           obtain rfl : ad778 = ad781 := (by injection e781)
           replace hx781_0 := (HB.out.cell (World.block_lt_of_cell? w _ hx781_0)).trans hx781_0
           replace hx781_1 := (HB.out.cell (World.block_lt_of_cell? w _ hx781_1)).trans hx781_1
           replace hx781_2 := (HB.out.cell (World.block_lt_of_cell? w _ hx781_2)).trans hx781_2
           replace hx781_3 := (HB.out.cell (World.block_lt_of_cell? w _ hx781_3)).trans hx781_3
           replace hx781_4 := (HB.out.cell (World.block_lt_of_cell? w _ hx781_4)).trans hx781_4
           replace hx781_5 := (HB.out.cell (World.block_lt_of_cell? w _ hx781_5)).trans hx781_5
           replace hx781_6 := (HB.out.cell (World.block_lt_of_cell? w _ hx781_6)).trans hx781_6
           replace hx781_7 := (HB.out.cell (World.block_lt_of_cell? w _ hx781_7)).trans hx781_7
           replace p781 := eq_true p781
           replace q781 := eq_true q781
           have p782 : 0 ≤ (x5_1 : Int) := of_decide_eq_true z27_1
           have q782 : x5_1 < (l0.length : Int) := of_decide_eq_true z27_1
           obtain ⟨ad782, e782, hx782_0, hx782_1, hx782_2, hx782_3, hx782_4, hx782_5, hx782_6, hx782_7⟩ := at_T167 HR0.out x5_1 p782 q782
           obtain rfl : ad778 = ad782 := (by injection e782)
           replace hx782_0 := (HB.out.cell (World.block_lt_of_cell? w _ hx782_0)).trans hx782_0
           replace hx782_1 := (HB.out.cell (World.block_lt_of_cell? w _ hx782_1)).trans hx782_1
           replace hx782_2 := (HB.out.cell (World.block_lt_of_cell? w _ hx782_2)).trans hx782_2
           replace hx782_3 := (HB.out.cell (World.block_lt_of_cell? w _ hx782_3)).trans hx782_3
           replace hx782_4 := (HB.out.cell (World.block_lt_of_cell? w _ hx782_4)).trans hx782_4
           replace hx782_5 := (HB.out.cell (World.block_lt_of_cell? w _ hx782_5)).trans hx782_5
           replace hx782_6 := (HB.out.cell (World.block_lt_of_cell? w _ hx782_6)).trans hx782_6
           replace hx782_7 := (HB.out.cell (World.block_lt_of_cell? w _ hx782_7)).trans hx782_7
           replace p782 := eq_true p782
           replace q782 := eq_true q782
           have p783 : 0 ≤ (x5_1 : Int) := of_decide_eq_true z27_1
           have q783 : x5_1 < (l0.length : Int) := of_decide_eq_true z27_1
           obtain ⟨ad783, e783, hx783_0, hx783_1, hx783_2, hx783_3, hx783_4, hx783_5, hx783_6, hx783_7⟩ := at_T167 HR0.out x5_1 p783 q783
           obtain rfl : ad778 = ad783 := (by injection e783)
           replace hx783_0 := (HB.out.cell (World.block_lt_of_cell? w _ hx783_0)).trans hx783_0
           replace hx783_1 := (HB.out.cell (World.block_lt_of_cell? w _ hx783_1)).trans hx783_1
           replace hx783_2 := (HB.out.cell (World.block_lt_of_cell? w _ hx783_2)).trans hx783_2
           replace hx783_3 := (HB.out.cell (World.block_lt_of_cell? w _ hx783_3)).trans hx783_3
           replace hx783_4 := (HB.out.cell (World.block_lt_of_cell? w _ hx783_4)).trans hx783_4
           replace hx783_5 := (HB.out.cell (World.block_lt_of_cell? w _ hx783_5)).trans hx783_5
           replace hx783_6 := (HB.out.cell (World.block_lt_of_cell? w _ hx783_6)).trans hx783_6
           replace hx783_7 := (HB.out.cell (World.block_lt_of_cell? w _ hx783_7)).trans hx783_7
           replace p783 := eq_true p783
           replace q783 := eq_true q783
           have p784 : 0 ≤ (x5_1 : Int) := of_decide_eq_true z27_1
           have q784 : x5_1 < (l0.length : Int) := of_decide_eq_true z27_1
           obtain ⟨ad784, e784, hx784_0, hx784_1, hx784_2, hx784_3, hx784_4, hx784_5, hx784_6, hx784_7⟩ := at_T167 HR0.out x5_1 p784 q784
           obtain rfl : ad778 = ad784 := (by injection e784)
           replace hx784_0 := (HB.out.cell (World.block_lt_of_cell? w _ hx784_0)).trans hx784_0
           replace hx784_1 := (HB.out.cell (World.block_lt_of_cell? w _ hx784_1)).trans hx784_1
           replace hx784_2 := (HB.out.cell (World.block_lt_of_cell? w _ hx784_2)).trans hx784_2
           replace hx784_3 := (HB.out.cell (World.block_lt_of_cell? w _ hx784_3)).trans hx784_3
           replace hx784_4 := (HB.out.cell (World.block_lt_of_cell? w _ hx784_4)).trans hx784_4
           replace hx784_5 := (HB.out.cell (World.block_lt_of_cell? w _ hx784_5)).trans hx784_5
           replace hx784_6 := (HB.out.cell (World.block_lt_of_cell? w _ hx784_6)).trans hx784_6
           replace hx784_7 := (HB.out.cell (World.block_lt_of_cell? w _ hx784_7)).trans hx784_7
           replace p784 := eq_true p784
           replace q784 := eq_true q784
           try go_wp2
           go_ret
           exact ⟨z27_5, z27_2⟩
         ·
          rw [if_neg c10] at H
          have c10b0 : (((rd_T167 l0 x5_1).f3.f0) == (wrap64 ((wrap64 ((wrap64 ((wrap64 (x1_1 + 1)) + 1)) + 1)) + 1))) = false := beq_eq_false_iff_ne.mpr c10
          have c10b1 : (((rd_T167 l0 x5_1).f3.f0) != (wrap64 ((wrap64 ((wrap64 ((wrap64 (x1_1 + 1)) + 1)) + 1)) + 1))) = true := bne_iff_ne.mpr c10
          obtain rfl := Option.some.inj H
          try go_wp2
          have n0_ := Aside0.mk (below_drew1 HB.out)
          clear HB
          have HB := n0_
          clear n0_
          have p778 : 0 ≤ (x5_1 : Int) := of_decide_eq_true z27_1
          have q778 : x5_1 < (l0.length : Int) := of_decide_eq_true z27_1
          obtain ⟨ad778, e778, hx778_0, hx778_1, hx778_2, hx778_3, hx778_4, hx778_5, hx778_6, hx778_7⟩ := at_T167 HR0.out x5_1 p778 q778
          have hw778_7 := hx778_7
          have hw778_6 := hx778_6
          have hw778_5 := hx778_5
          have hw778_4 := hx778_4
          have hw778_3 := hx778_3
          have hw778_2 := hx778_2
          have hw778_1 := hx778_1
          have hw778_0 := hx778_0
          cases e778
          replace hx778_0 := (HB.out.cell (World.block_lt_of_cell? w _ hx778_0)).trans hx778_0
          replace hx778_1 := (HB.out.cell (World.block_lt_of_cell? w _ hx778_1)).trans hx778_1
          replace hx778_2 := (HB.out.cell (World.block_lt_of_cell? w _ hx778_2)).trans hx778_2
          replace hx778_3 := (HB.out.cell (World.block_lt_of_cell? w _ hx778_3)).trans hx778_3
          replace hx778_4 := (HB.out.cell (World.block_lt_of_cell? w _ hx778_4)).trans hx778_4
          replace hx778_5 := (HB.out.cell (World.block_lt_of_cell? w _ hx778_5)).trans hx778_5
          replace hx778_6 := (HB.out.cell (World.block_lt_of_cell? w _ hx778_6)).trans hx778_6
          replace hx778_7 := (HB.out.cell (World.block_lt_of_cell? w _ hx778_7)).trans hx778_7
          replace p778 := eq_true p778
          replace q778 := eq_true q778
          refine start_ (n := 8) (S := fun w' => w'.cell? (ad778.add ((x5_1).toNat * 8)) = some (.string ((rd_T167 l0 x5_1).f0)) ∧ w'.cell? ⟨(ad778.add ((x5_1).toNat * 8)).block, (ad778.add ((x5_1).toNat * 8)).off + 1, none⟩ = some (.int .i64 ((rd_T167 l0 x5_1).f1.f0)) ∧ w'.cell? ⟨(ad778.add ((x5_1).toNat * 8)).block, (ad778.add ((x5_1).toNat * 8)).off + 2, none⟩ = some (.int .i64 ((rd_T167 l0 x5_1).f1.f1)) ∧ w'.cell? ⟨(ad778.add ((x5_1).toNat * 8)).block, (ad778.add ((x5_1).toNat * 8)).off + 3, none⟩ = some (.int .i64 ((rd_T167 l0 x5_1).f2)) ∧ w'.cell? ⟨(ad778.add ((x5_1).toNat * 8)).block, (ad778.add ((x5_1).toNat * 8)).off + 4, none⟩ = some (.int .i64 ((rd_T167 l0 x5_1).f3.f0)) ∧ w'.cell? ⟨(ad778.add ((x5_1).toNat * 8)).block, (ad778.add ((x5_1).toNat * 8)).off + 5, none⟩ = some (.int .i64 ((rd_T167 l0 x5_1).f3.f1)) ∧ w'.cell? ⟨(ad778.add ((x5_1).toNat * 8)).block, (ad778.add ((x5_1).toNat * 8)).off + 6, none⟩ = some (.int .i64 ((rd_T167 l0 x5_1).f4)) ∧ w'.cell? ⟨(ad778.add ((x5_1).toNat * 8)).block, (ad778.add ((x5_1).toNat * 8)).off + 7, none⟩ = some (.bool ((rd_T167 l0 x5_1).f5))) (ds := []) #[false, false, false, false, false, false, false, false] z27_4 rfl rfl ⟨((HB.out.cell (World.block_lt_of_cell? w _ hw778_0)).trans hw778_0), ((HB.out.cell (World.block_lt_of_cell? w _ hw778_1)).trans hw778_1), ((HB.out.cell (World.block_lt_of_cell? w _ hw778_2)).trans hw778_2), ((HB.out.cell (World.block_lt_of_cell? w _ hw778_3)).trans hw778_3), ((HB.out.cell (World.block_lt_of_cell? w _ hw778_4)).trans hw778_4), ((HB.out.cell (World.block_lt_of_cell? w _ hw778_5)).trans hw778_5), ((HB.out.cell (World.block_lt_of_cell? w _ hw778_6)).trans hw778_6), ((HB.out.cell (World.block_lt_of_cell? w _ hw778_7)).trans hw778_7)⟩ (fun hHeld => ?_); refine with_tabW laws_heldCellS.tab4 laws_heldCellS.bits4 (fun HT_ HW_ => ?_)
          generalize wr.drew = w22 at HB hx778_0 hx778_1 hx778_2 hx778_3 hx778_4 hx778_5 hx778_6 hx778_7 hHeld ⊢
          refine pure_ (i := 0) (N := some 12) (v := ?_) (a' := ?_) #[true, false, false, false, false, false, false, false] rfl rfl (any_of HT_.out z27_4) (fun _ _ _ h => h) (Or.inl ⟨by rfl, ?_⟩) ?_ ?_
          rotate_left
          ·
           exact z27_3
          rotate_left
          ·
           exact z27_0
          refine pure_ (i := 1) (N := some 13) (v := ?_) (a' := ?_) #[true, true, false, false, false, false, false, false] rfl rfl (any_of HT_.out z27_4) (fun _ _ _ h => h) (Or.inl ⟨by rfl, ?_⟩) ?_ ?_
          rotate_left
          ·
           exact z27_3
          rotate_left
          ·
           exact z27_0
          refine pure_ (i := 2) (N := some 14) (v := ?_) (a' := ?_) #[true, true, true, false, false, false, false, false] rfl rfl (any_of HT_.out z27_4) (fun _ _ _ h => h) (Or.inl ⟨by rfl, ?_⟩) ?_ ?_
          rotate_left
          ·
           exact z27_3
          rotate_left
          ·
           exact z27_0
          refine pure_ (i := 3) (N := some 15) (v := ?_) (a' := ?_) #[true, true, true, true, false, false, false, false] rfl rfl (any_of HT_.out z27_4) (fun _ _ _ h => h) (Or.inl ⟨by rfl, ?_⟩) ?_ ?_
          rotate_left
          ·
           exact z27_3
          rotate_left
          ·
           exact z27_0
          refine pure_ (i := 5) (N := some 17) (v := ?_) (a' := ?_) #[true, true, true, true, false, true, false, false] rfl rfl (any_of HT_.out z27_4) (fun _ _ _ h => h) (Or.inl ⟨by rfl, ?_⟩) ?_ ?_
          rotate_left
          ·
           exact z27_3
          rotate_left
          ·
           exact z27_0
          refine take_ (i := 4) (N := some 16) (v := ?_) (a' := ?_) #[true, true, true, true, true, true, false, false] rfl rfl (take_ofW HT_.out HW_.out z27_4) (fun _ _ _ h => h) (Or.inl ⟨by rfl, ?_⟩) hHeld ?_ ?_
          rotate_left
          ·
           rintro w' ⟨s0, s1, s2, s3, s4, s5, s6, s7⟩
           go_simp
           with_reducible rfl
          rotate_left
          ·
           exact z27_0
          refine one_ (i := 6) (N := some 18) #[true, true, true, true, true, true, true, false] rfl rfl (one_of HT_.out z27_4) (by decide) (fun K hK => ?_)
          refine goes_ Try.func119 z27_4 rfl #[.int .i64 x1_1] (by rfl) rfl rfl z27_6 ?_
          with_reducible refine (laws_markText.calls k1 x1_1 t779 _ A5.out).mono ?_
          rintro e w23 ⟨rfl, hb⟩
          refine ⟨_, rfl, ?_⟩
          have n0_ := Aside0.mk (below_step z27_2 hb)
          clear HB
          have HB := n0_
          clear n0_
          (try clear hb)
          (try clear hb2)
          (try clear hk)
          (try clear hi)
          refine hK.out _ _ ⟨((HB.out.cell (World.block_lt_of_cell? w _ hw778_0)).trans hw778_0), ((HB.out.cell (World.block_lt_of_cell? w _ hw778_1)).trans hw778_1), ((HB.out.cell (World.block_lt_of_cell? w _ hw778_2)).trans hw778_2), ((HB.out.cell (World.block_lt_of_cell? w _ hw778_3)).trans hw778_3), ((HB.out.cell (World.block_lt_of_cell? w _ hw778_4)).trans hw778_4), ((HB.out.cell (World.block_lt_of_cell? w _ hw778_5)).trans hw778_5), ((HB.out.cell (World.block_lt_of_cell? w _ hw778_6)).trans hw778_6), ((HB.out.cell (World.block_lt_of_cell? w _ hw778_7)).trans hw778_7)⟩ (fun hHeld => ?_)
          clear hK K
          refine norm_ (a' := ?_) ?_ ?_
          rotate_left
          ·
           show Act.put _ (some 18) _ = _
           simp only [Act.put, List.setIfInBounds_toArray, List.set_cons_zero, List.set_cons_succ, i64_w, i32_w]
           rfl
          refine pure_ (i := 7) (N := some 19) (v := ?_) (a' := ?_) #[true, true, true, true, true, true, true, true] rfl rfl (any_of HT_.out z27_4) (fun _ _ _ h => h) (Or.inl ⟨by rfl, ?_⟩) ?_ ?_
          rotate_left
          ·
           exact z27_3
          rotate_left
          ·
           exact z27_0
          refine done_ (done_of HT_.out z27_4) ?_
          have p780 : 0 ≤ (x5_1 : Int) := of_decide_eq_true z27_1
          have q780 : x5_1 < (l0.length : Int) := of_decide_eq_true z27_1
          obtain ⟨ad780, e780, hx780_0, hx780_1, hx780_2, hx780_3, hx780_4, hx780_5, hx780_6, hx780_7⟩ := at_T167 HR0.out x5_1 p780 q780
          obtain rfl : ad778 = ad780 := (by injection e780)
          replace hx780_0 := (HB.out.cell (World.block_lt_of_cell? w _ hx780_0)).trans hx780_0
          replace hx780_1 := (HB.out.cell (World.block_lt_of_cell? w _ hx780_1)).trans hx780_1
          replace hx780_2 := (HB.out.cell (World.block_lt_of_cell? w _ hx780_2)).trans hx780_2
          replace hx780_3 := (HB.out.cell (World.block_lt_of_cell? w _ hx780_3)).trans hx780_3
          replace hx780_4 := (HB.out.cell (World.block_lt_of_cell? w _ hx780_4)).trans hx780_4
          replace hx780_5 := (HB.out.cell (World.block_lt_of_cell? w _ hx780_5)).trans hx780_5
          replace hx780_6 := (HB.out.cell (World.block_lt_of_cell? w _ hx780_6)).trans hx780_6
          replace hx780_7 := (HB.out.cell (World.block_lt_of_cell? w _ hx780_7)).trans hx780_7
          replace p780 := eq_true p780
          replace q780 := eq_true q780
          have p781 : 0 ≤ (x5_1 : Int) := of_decide_eq_true z27_1
          have q781 : x5_1 < (l0.length : Int) := of_decide_eq_true z27_1
          obtain ⟨ad781, e781, hx781_0, hx781_1, hx781_2, hx781_3, hx781_4, hx781_5, hx781_6, hx781_7⟩ := at_T167 HR0.out x5_1 p781 q781
          obtain rfl : ad778 = ad781 := (by injection e781)
          replace hx781_0 := (HB.out.cell (World.block_lt_of_cell? w _ hx781_0)).trans hx781_0
          replace hx781_1 := (HB.out.cell (World.block_lt_of_cell? w _ hx781_1)).trans hx781_1
          replace hx781_2 := (HB.out.cell (World.block_lt_of_cell? w _ hx781_2)).trans hx781_2
          replace hx781_3 := (HB.out.cell (World.block_lt_of_cell? w _ hx781_3)).trans hx781_3
          replace hx781_4 := (HB.out.cell (World.block_lt_of_cell? w _ hx781_4)).trans hx781_4
          replace hx781_5 := (HB.out.cell (World.block_lt_of_cell? w _ hx781_5)).trans hx781_5
          replace hx781_6 := (HB.out.cell (World.block_lt_of_cell? w _ hx781_6)).trans hx781_6
          replace hx781_7 := (HB.out.cell (World.block_lt_of_cell? w _ hx781_7)).trans hx781_7
          replace p781 := eq_true p781
          replace q781 := eq_true q781
          have p782 : 0 ≤ (x5_1 : Int) := of_decide_eq_true z27_1
          have q782 : x5_1 < (l0.length : Int) := of_decide_eq_true z27_1
          obtain ⟨ad782, e782, hx782_0, hx782_1, hx782_2, hx782_3, hx782_4, hx782_5, hx782_6, hx782_7⟩ := at_T167 HR0.out x5_1 p782 q782
          obtain rfl : ad778 = ad782 := (by injection e782)
          replace hx782_0 := (HB.out.cell (World.block_lt_of_cell? w _ hx782_0)).trans hx782_0
          replace hx782_1 := (HB.out.cell (World.block_lt_of_cell? w _ hx782_1)).trans hx782_1
          replace hx782_2 := (HB.out.cell (World.block_lt_of_cell? w _ hx782_2)).trans hx782_2
          replace hx782_3 := (HB.out.cell (World.block_lt_of_cell? w _ hx782_3)).trans hx782_3
          replace hx782_4 := (HB.out.cell (World.block_lt_of_cell? w _ hx782_4)).trans hx782_4
          replace hx782_5 := (HB.out.cell (World.block_lt_of_cell? w _ hx782_5)).trans hx782_5
          replace hx782_6 := (HB.out.cell (World.block_lt_of_cell? w _ hx782_6)).trans hx782_6
          replace hx782_7 := (HB.out.cell (World.block_lt_of_cell? w _ hx782_7)).trans hx782_7
          replace p782 := eq_true p782
          replace q782 := eq_true q782
          have p783 : 0 ≤ (x5_1 : Int) := of_decide_eq_true z27_1
          have q783 : x5_1 < (l0.length : Int) := of_decide_eq_true z27_1
          obtain ⟨ad783, e783, hx783_0, hx783_1, hx783_2, hx783_3, hx783_4, hx783_5, hx783_6, hx783_7⟩ := at_T167 HR0.out x5_1 p783 q783
          obtain rfl : ad778 = ad783 := (by injection e783)
          replace hx783_0 := (HB.out.cell (World.block_lt_of_cell? w _ hx783_0)).trans hx783_0
          replace hx783_1 := (HB.out.cell (World.block_lt_of_cell? w _ hx783_1)).trans hx783_1
          replace hx783_2 := (HB.out.cell (World.block_lt_of_cell? w _ hx783_2)).trans hx783_2
          replace hx783_3 := (HB.out.cell (World.block_lt_of_cell? w _ hx783_3)).trans hx783_3
          replace hx783_4 := (HB.out.cell (World.block_lt_of_cell? w _ hx783_4)).trans hx783_4
          replace hx783_5 := (HB.out.cell (World.block_lt_of_cell? w _ hx783_5)).trans hx783_5
          replace hx783_6 := (HB.out.cell (World.block_lt_of_cell? w _ hx783_6)).trans hx783_6
          replace hx783_7 := (HB.out.cell (World.block_lt_of_cell? w _ hx783_7)).trans hx783_7
          replace p783 := eq_true p783
          replace q783 := eq_true q783
          try go_wp2
          go_ret
          exact ⟨z27_5, z27_2⟩
        ·
         rw [if_neg c9] at H
         have c9b0 : (((rd_T167 l0 x5_1).f2) == (wrap64 ((wrap64 ((wrap64 (x1_1 + 1)) + 1)) + 1))) = false := beq_eq_false_iff_ne.mpr c9
         have c9b1 : (((rd_T167 l0 x5_1).f2) != (wrap64 ((wrap64 ((wrap64 (x1_1 + 1)) + 1)) + 1))) = true := bne_iff_ne.mpr c9
         obtain rfl := Option.some.inj H
         try go_wp2
         have n0_ := Aside0.mk (below_drew1 HB.out)
         clear HB
         have HB := n0_
         clear n0_
         have p778 : 0 ≤ (x5_1 : Int) := of_decide_eq_true z27_1
         have q778 : x5_1 < (l0.length : Int) := of_decide_eq_true z27_1
         obtain ⟨ad778, e778, hx778_0, hx778_1, hx778_2, hx778_3, hx778_4, hx778_5, hx778_6, hx778_7⟩ := at_T167 HR0.out x5_1 p778 q778
         have hw778_7 := hx778_7
         have hw778_6 := hx778_6
         have hw778_5 := hx778_5
         have hw778_4 := hx778_4
         have hw778_3 := hx778_3
         have hw778_2 := hx778_2
         have hw778_1 := hx778_1
         have hw778_0 := hx778_0
         cases e778
         replace hx778_0 := (HB.out.cell (World.block_lt_of_cell? w _ hx778_0)).trans hx778_0
         replace hx778_1 := (HB.out.cell (World.block_lt_of_cell? w _ hx778_1)).trans hx778_1
         replace hx778_2 := (HB.out.cell (World.block_lt_of_cell? w _ hx778_2)).trans hx778_2
         replace hx778_3 := (HB.out.cell (World.block_lt_of_cell? w _ hx778_3)).trans hx778_3
         replace hx778_4 := (HB.out.cell (World.block_lt_of_cell? w _ hx778_4)).trans hx778_4
         replace hx778_5 := (HB.out.cell (World.block_lt_of_cell? w _ hx778_5)).trans hx778_5
         replace hx778_6 := (HB.out.cell (World.block_lt_of_cell? w _ hx778_6)).trans hx778_6
         replace hx778_7 := (HB.out.cell (World.block_lt_of_cell? w _ hx778_7)).trans hx778_7
         replace p778 := eq_true p778
         replace q778 := eq_true q778
         refine start_ (n := 8) (S := fun w' => w'.cell? (ad778.add ((x5_1).toNat * 8)) = some (.string ((rd_T167 l0 x5_1).f0)) ∧ w'.cell? ⟨(ad778.add ((x5_1).toNat * 8)).block, (ad778.add ((x5_1).toNat * 8)).off + 1, none⟩ = some (.int .i64 ((rd_T167 l0 x5_1).f1.f0)) ∧ w'.cell? ⟨(ad778.add ((x5_1).toNat * 8)).block, (ad778.add ((x5_1).toNat * 8)).off + 2, none⟩ = some (.int .i64 ((rd_T167 l0 x5_1).f1.f1)) ∧ w'.cell? ⟨(ad778.add ((x5_1).toNat * 8)).block, (ad778.add ((x5_1).toNat * 8)).off + 3, none⟩ = some (.int .i64 ((rd_T167 l0 x5_1).f2)) ∧ w'.cell? ⟨(ad778.add ((x5_1).toNat * 8)).block, (ad778.add ((x5_1).toNat * 8)).off + 4, none⟩ = some (.int .i64 ((rd_T167 l0 x5_1).f3.f0)) ∧ w'.cell? ⟨(ad778.add ((x5_1).toNat * 8)).block, (ad778.add ((x5_1).toNat * 8)).off + 5, none⟩ = some (.int .i64 ((rd_T167 l0 x5_1).f3.f1)) ∧ w'.cell? ⟨(ad778.add ((x5_1).toNat * 8)).block, (ad778.add ((x5_1).toNat * 8)).off + 6, none⟩ = some (.int .i64 ((rd_T167 l0 x5_1).f4)) ∧ w'.cell? ⟨(ad778.add ((x5_1).toNat * 8)).block, (ad778.add ((x5_1).toNat * 8)).off + 7, none⟩ = some (.bool ((rd_T167 l0 x5_1).f5))) (ds := []) #[false, false, false, false, false, false, false, false] z27_4 rfl rfl ⟨((HB.out.cell (World.block_lt_of_cell? w _ hw778_0)).trans hw778_0), ((HB.out.cell (World.block_lt_of_cell? w _ hw778_1)).trans hw778_1), ((HB.out.cell (World.block_lt_of_cell? w _ hw778_2)).trans hw778_2), ((HB.out.cell (World.block_lt_of_cell? w _ hw778_3)).trans hw778_3), ((HB.out.cell (World.block_lt_of_cell? w _ hw778_4)).trans hw778_4), ((HB.out.cell (World.block_lt_of_cell? w _ hw778_5)).trans hw778_5), ((HB.out.cell (World.block_lt_of_cell? w _ hw778_6)).trans hw778_6), ((HB.out.cell (World.block_lt_of_cell? w _ hw778_7)).trans hw778_7)⟩ (fun hHeld => ?_); refine with_tabW laws_heldCellS.tab4 laws_heldCellS.bits4 (fun HT_ HW_ => ?_)
         generalize wr.drew = w24 at HB hx778_0 hx778_1 hx778_2 hx778_3 hx778_4 hx778_5 hx778_6 hx778_7 hHeld ⊢
         refine pure_ (i := 0) (N := some 12) (v := ?_) (a' := ?_) #[true, false, false, false, false, false, false, false] rfl rfl (any_of HT_.out z27_4) (fun _ _ _ h => h) (Or.inl ⟨by rfl, ?_⟩) ?_ ?_
         rotate_left
         ·
          exact z27_3
         rotate_left
         ·
          exact z27_0
         refine pure_ (i := 1) (N := some 13) (v := ?_) (a' := ?_) #[true, true, false, false, false, false, false, false] rfl rfl (any_of HT_.out z27_4) (fun _ _ _ h => h) (Or.inl ⟨by rfl, ?_⟩) ?_ ?_
         rotate_left
         ·
          exact z27_3
         rotate_left
         ·
          exact z27_0
         refine pure_ (i := 2) (N := some 14) (v := ?_) (a' := ?_) #[true, true, true, false, false, false, false, false] rfl rfl (any_of HT_.out z27_4) (fun _ _ _ h => h) (Or.inl ⟨by rfl, ?_⟩) ?_ ?_
         rotate_left
         ·
          exact z27_3
         rotate_left
         ·
          exact z27_0
         refine pure_ (i := 3) (N := some 15) (v := ?_) (a' := ?_) #[true, true, true, true, false, false, false, false] rfl rfl (any_of HT_.out z27_4) (fun _ _ _ h => h) (Or.inl ⟨by rfl, ?_⟩) ?_ ?_
         rotate_left
         ·
          exact z27_3
         rotate_left
         ·
          exact z27_0
         refine pure_ (i := 5) (N := some 17) (v := ?_) (a' := ?_) #[true, true, true, true, false, true, false, false] rfl rfl (any_of HT_.out z27_4) (fun _ _ _ h => h) (Or.inl ⟨by rfl, ?_⟩) ?_ ?_
         rotate_left
         ·
          exact z27_3
         rotate_left
         ·
          exact z27_0
         refine take_ (i := 4) (N := some 16) (v := ?_) (a' := ?_) #[true, true, true, true, true, true, false, false] rfl rfl (take_ofW HT_.out HW_.out z27_4) (fun _ _ _ h => h) (Or.inl ⟨by rfl, ?_⟩) hHeld ?_ ?_
         rotate_left
         ·
          rintro w' ⟨s0, s1, s2, s3, s4, s5, s6, s7⟩
          go_simp
          with_reducible rfl
         rotate_left
         ·
          exact z27_0
         refine one_ (i := 6) (N := some 18) #[true, true, true, true, true, true, true, false] rfl rfl (one_of HT_.out z27_4) (by decide) (fun K hK => ?_)
         refine goes_ Try.func119 z27_4 rfl #[.int .i64 x1_1] (by rfl) rfl rfl z27_6 ?_
         with_reducible refine (laws_markText.calls k1 x1_1 t779 _ A5.out).mono ?_
         rintro e w25 ⟨rfl, hb⟩
         refine ⟨_, rfl, ?_⟩
         have n0_ := Aside0.mk (below_step z27_2 hb)
         clear HB
         have HB := n0_
         clear n0_
         (try clear hb)
         (try clear hb2)
         (try clear hk)
         (try clear hi)
         refine hK.out _ _ ⟨((HB.out.cell (World.block_lt_of_cell? w _ hw778_0)).trans hw778_0), ((HB.out.cell (World.block_lt_of_cell? w _ hw778_1)).trans hw778_1), ((HB.out.cell (World.block_lt_of_cell? w _ hw778_2)).trans hw778_2), ((HB.out.cell (World.block_lt_of_cell? w _ hw778_3)).trans hw778_3), ((HB.out.cell (World.block_lt_of_cell? w _ hw778_4)).trans hw778_4), ((HB.out.cell (World.block_lt_of_cell? w _ hw778_5)).trans hw778_5), ((HB.out.cell (World.block_lt_of_cell? w _ hw778_6)).trans hw778_6), ((HB.out.cell (World.block_lt_of_cell? w _ hw778_7)).trans hw778_7)⟩ (fun hHeld => ?_)
         clear hK K
         refine norm_ (a' := ?_) ?_ ?_
         rotate_left
         ·
          show Act.put _ (some 18) _ = _
          simp only [Act.put, List.setIfInBounds_toArray, List.set_cons_zero, List.set_cons_succ, i64_w, i32_w]
          rfl
         refine pure_ (i := 7) (N := some 19) (v := ?_) (a' := ?_) #[true, true, true, true, true, true, true, true] rfl rfl (any_of HT_.out z27_4) (fun _ _ _ h => h) (Or.inl ⟨by rfl, ?_⟩) ?_ ?_
         rotate_left
         ·
          exact z27_3
         rotate_left
         ·
          exact z27_0
         refine done_ (done_of HT_.out z27_4) ?_
         have p780 : 0 ≤ (x5_1 : Int) := of_decide_eq_true z27_1
         have q780 : x5_1 < (l0.length : Int) := of_decide_eq_true z27_1
         obtain ⟨ad780, e780, hx780_0, hx780_1, hx780_2, hx780_3, hx780_4, hx780_5, hx780_6, hx780_7⟩ := at_T167 HR0.out x5_1 p780 q780
         obtain rfl : ad778 = ad780 := (by injection e780)
         replace hx780_0 := (HB.out.cell (World.block_lt_of_cell? w _ hx780_0)).trans hx780_0
         replace hx780_1 := (HB.out.cell (World.block_lt_of_cell? w _ hx780_1)).trans hx780_1
         replace hx780_2 := (HB.out.cell (World.block_lt_of_cell? w _ hx780_2)).trans hx780_2
         replace hx780_3 := (HB.out.cell (World.block_lt_of_cell? w _ hx780_3)).trans hx780_3
         replace hx780_4 := (HB.out.cell (World.block_lt_of_cell? w _ hx780_4)).trans hx780_4
         replace hx780_5 := (HB.out.cell (World.block_lt_of_cell? w _ hx780_5)).trans hx780_5
         replace hx780_6 := (HB.out.cell (World.block_lt_of_cell? w _ hx780_6)).trans hx780_6
         replace hx780_7 := (HB.out.cell (World.block_lt_of_cell? w _ hx780_7)).trans hx780_7
         replace p780 := eq_true p780
         replace q780 := eq_true q780
         have p781 : 0 ≤ (x5_1 : Int) := of_decide_eq_true z27_1
         have q781 : x5_1 < (l0.length : Int) := of_decide_eq_true z27_1
         obtain ⟨ad781, e781, hx781_0, hx781_1, hx781_2, hx781_3, hx781_4, hx781_5, hx781_6, hx781_7⟩ := at_T167 HR0.out x5_1 p781 q781
         obtain rfl : ad778 = ad781 := (by injection e781)
         replace hx781_0 := (HB.out.cell (World.block_lt_of_cell? w _ hx781_0)).trans hx781_0
         replace hx781_1 := (HB.out.cell (World.block_lt_of_cell? w _ hx781_1)).trans hx781_1
         replace hx781_2 := (HB.out.cell (World.block_lt_of_cell? w _ hx781_2)).trans hx781_2
         replace hx781_3 := (HB.out.cell (World.block_lt_of_cell? w _ hx781_3)).trans hx781_3
         replace hx781_4 := (HB.out.cell (World.block_lt_of_cell? w _ hx781_4)).trans hx781_4
         replace hx781_5 := (HB.out.cell (World.block_lt_of_cell? w _ hx781_5)).trans hx781_5
         replace hx781_6 := (HB.out.cell (World.block_lt_of_cell? w _ hx781_6)).trans hx781_6
         replace hx781_7 := (HB.out.cell (World.block_lt_of_cell? w _ hx781_7)).trans hx781_7
         replace p781 := eq_true p781
         replace q781 := eq_true q781
         have p782 : 0 ≤ (x5_1 : Int) := of_decide_eq_true z27_1
         have q782 : x5_1 < (l0.length : Int) := of_decide_eq_true z27_1
         obtain ⟨ad782, e782, hx782_0, hx782_1, hx782_2, hx782_3, hx782_4, hx782_5, hx782_6, hx782_7⟩ := at_T167 HR0.out x5_1 p782 q782
         obtain rfl : ad778 = ad782 := (by injection e782)
         replace hx782_0 := (HB.out.cell (World.block_lt_of_cell? w _ hx782_0)).trans hx782_0
         replace hx782_1 := (HB.out.cell (World.block_lt_of_cell? w _ hx782_1)).trans hx782_1
         replace hx782_2 := (HB.out.cell (World.block_lt_of_cell? w _ hx782_2)).trans hx782_2
         replace hx782_3 := (HB.out.cell (World.block_lt_of_cell? w _ hx782_3)).trans hx782_3
         replace hx782_4 := (HB.out.cell (World.block_lt_of_cell? w _ hx782_4)).trans hx782_4
         replace hx782_5 := (HB.out.cell (World.block_lt_of_cell? w _ hx782_5)).trans hx782_5
         replace hx782_6 := (HB.out.cell (World.block_lt_of_cell? w _ hx782_6)).trans hx782_6
         replace hx782_7 := (HB.out.cell (World.block_lt_of_cell? w _ hx782_7)).trans hx782_7
         replace p782 := eq_true p782
         replace q782 := eq_true q782
         try go_wp2
         go_ret
         exact ⟨z27_5, z27_2⟩
       ·
        rw [if_neg c8] at H
        have c8b0 : (((rd_T167 l0 x5_1).f1.f1) == (wrap64 ((wrap64 (x1_1 + 1)) + 1))) = false := beq_eq_false_iff_ne.mpr c8
        have c8b1 : (((rd_T167 l0 x5_1).f1.f1) != (wrap64 ((wrap64 (x1_1 + 1)) + 1))) = true := bne_iff_ne.mpr c8
        obtain rfl := Option.some.inj H
        try go_wp2
        have n0_ := Aside0.mk (below_drew1 HB.out)
        clear HB
        have HB := n0_
        clear n0_
        have p778 : 0 ≤ (x5_1 : Int) := of_decide_eq_true z27_1
        have q778 : x5_1 < (l0.length : Int) := of_decide_eq_true z27_1
        obtain ⟨ad778, e778, hx778_0, hx778_1, hx778_2, hx778_3, hx778_4, hx778_5, hx778_6, hx778_7⟩ := at_T167 HR0.out x5_1 p778 q778
        have hw778_7 := hx778_7
        have hw778_6 := hx778_6
        have hw778_5 := hx778_5
        have hw778_4 := hx778_4
        have hw778_3 := hx778_3
        have hw778_2 := hx778_2
        have hw778_1 := hx778_1
        have hw778_0 := hx778_0
        cases e778
        replace hx778_0 := (HB.out.cell (World.block_lt_of_cell? w _ hx778_0)).trans hx778_0
        replace hx778_1 := (HB.out.cell (World.block_lt_of_cell? w _ hx778_1)).trans hx778_1
        replace hx778_2 := (HB.out.cell (World.block_lt_of_cell? w _ hx778_2)).trans hx778_2
        replace hx778_3 := (HB.out.cell (World.block_lt_of_cell? w _ hx778_3)).trans hx778_3
        replace hx778_4 := (HB.out.cell (World.block_lt_of_cell? w _ hx778_4)).trans hx778_4
        replace hx778_5 := (HB.out.cell (World.block_lt_of_cell? w _ hx778_5)).trans hx778_5
        replace hx778_6 := (HB.out.cell (World.block_lt_of_cell? w _ hx778_6)).trans hx778_6
        replace hx778_7 := (HB.out.cell (World.block_lt_of_cell? w _ hx778_7)).trans hx778_7
        replace p778 := eq_true p778
        replace q778 := eq_true q778
        refine start_ (n := 8) (S := fun w' => w'.cell? (ad778.add ((x5_1).toNat * 8)) = some (.string ((rd_T167 l0 x5_1).f0)) ∧ w'.cell? ⟨(ad778.add ((x5_1).toNat * 8)).block, (ad778.add ((x5_1).toNat * 8)).off + 1, none⟩ = some (.int .i64 ((rd_T167 l0 x5_1).f1.f0)) ∧ w'.cell? ⟨(ad778.add ((x5_1).toNat * 8)).block, (ad778.add ((x5_1).toNat * 8)).off + 2, none⟩ = some (.int .i64 ((rd_T167 l0 x5_1).f1.f1)) ∧ w'.cell? ⟨(ad778.add ((x5_1).toNat * 8)).block, (ad778.add ((x5_1).toNat * 8)).off + 3, none⟩ = some (.int .i64 ((rd_T167 l0 x5_1).f2)) ∧ w'.cell? ⟨(ad778.add ((x5_1).toNat * 8)).block, (ad778.add ((x5_1).toNat * 8)).off + 4, none⟩ = some (.int .i64 ((rd_T167 l0 x5_1).f3.f0)) ∧ w'.cell? ⟨(ad778.add ((x5_1).toNat * 8)).block, (ad778.add ((x5_1).toNat * 8)).off + 5, none⟩ = some (.int .i64 ((rd_T167 l0 x5_1).f3.f1)) ∧ w'.cell? ⟨(ad778.add ((x5_1).toNat * 8)).block, (ad778.add ((x5_1).toNat * 8)).off + 6, none⟩ = some (.int .i64 ((rd_T167 l0 x5_1).f4)) ∧ w'.cell? ⟨(ad778.add ((x5_1).toNat * 8)).block, (ad778.add ((x5_1).toNat * 8)).off + 7, none⟩ = some (.bool ((rd_T167 l0 x5_1).f5))) (ds := []) #[false, false, false, false, false, false, false, false] z27_4 rfl rfl ⟨((HB.out.cell (World.block_lt_of_cell? w _ hw778_0)).trans hw778_0), ((HB.out.cell (World.block_lt_of_cell? w _ hw778_1)).trans hw778_1), ((HB.out.cell (World.block_lt_of_cell? w _ hw778_2)).trans hw778_2), ((HB.out.cell (World.block_lt_of_cell? w _ hw778_3)).trans hw778_3), ((HB.out.cell (World.block_lt_of_cell? w _ hw778_4)).trans hw778_4), ((HB.out.cell (World.block_lt_of_cell? w _ hw778_5)).trans hw778_5), ((HB.out.cell (World.block_lt_of_cell? w _ hw778_6)).trans hw778_6), ((HB.out.cell (World.block_lt_of_cell? w _ hw778_7)).trans hw778_7)⟩ (fun hHeld => ?_); refine with_tabW laws_heldCellS.tab4 laws_heldCellS.bits4 (fun HT_ HW_ => ?_)
        generalize wr.drew = w26 at HB hx778_0 hx778_1 hx778_2 hx778_3 hx778_4 hx778_5 hx778_6 hx778_7 hHeld ⊢
        refine pure_ (i := 0) (N := some 12) (v := ?_) (a' := ?_) #[true, false, false, false, false, false, false, false] rfl rfl (any_of HT_.out z27_4) (fun _ _ _ h => h) (Or.inl ⟨by rfl, ?_⟩) ?_ ?_
        rotate_left
        ·
         exact z27_3
        rotate_left
        ·
         exact z27_0
        refine pure_ (i := 1) (N := some 13) (v := ?_) (a' := ?_) #[true, true, false, false, false, false, false, false] rfl rfl (any_of HT_.out z27_4) (fun _ _ _ h => h) (Or.inl ⟨by rfl, ?_⟩) ?_ ?_
        rotate_left
        ·
         exact z27_3
        rotate_left
        ·
         exact z27_0
        refine pure_ (i := 2) (N := some 14) (v := ?_) (a' := ?_) #[true, true, true, false, false, false, false, false] rfl rfl (any_of HT_.out z27_4) (fun _ _ _ h => h) (Or.inl ⟨by rfl, ?_⟩) ?_ ?_
        rotate_left
        ·
         exact z27_3
        rotate_left
        ·
         exact z27_0
        refine pure_ (i := 3) (N := some 15) (v := ?_) (a' := ?_) #[true, true, true, true, false, false, false, false] rfl rfl (any_of HT_.out z27_4) (fun _ _ _ h => h) (Or.inl ⟨by rfl, ?_⟩) ?_ ?_
        rotate_left
        ·
         exact z27_3
        rotate_left
        ·
         exact z27_0
        refine pure_ (i := 5) (N := some 17) (v := ?_) (a' := ?_) #[true, true, true, true, false, true, false, false] rfl rfl (any_of HT_.out z27_4) (fun _ _ _ h => h) (Or.inl ⟨by rfl, ?_⟩) ?_ ?_
        rotate_left
        ·
         exact z27_3
        rotate_left
        ·
         exact z27_0
        refine take_ (i := 4) (N := some 16) (v := ?_) (a' := ?_) #[true, true, true, true, true, true, false, false] rfl rfl (take_ofW HT_.out HW_.out z27_4) (fun _ _ _ h => h) (Or.inl ⟨by rfl, ?_⟩) hHeld ?_ ?_
        rotate_left
        ·
         rintro w' ⟨s0, s1, s2, s3, s4, s5, s6, s7⟩
         go_simp
         with_reducible rfl
        rotate_left
        ·
         exact z27_0
        refine one_ (i := 6) (N := some 18) #[true, true, true, true, true, true, true, false] rfl rfl (one_of HT_.out z27_4) (by decide) (fun K hK => ?_)
        refine goes_ Try.func119 z27_4 rfl #[.int .i64 x1_1] (by rfl) rfl rfl z27_6 ?_
        with_reducible refine (laws_markText.calls k1 x1_1 t779 _ A5.out).mono ?_
        rintro e w27 ⟨rfl, hb⟩
        refine ⟨_, rfl, ?_⟩
        have n0_ := Aside0.mk (below_step z27_2 hb)
        clear HB
        have HB := n0_
        clear n0_
        (try clear hb)
        (try clear hb2)
        (try clear hk)
        (try clear hi)
        refine hK.out _ _ ⟨((HB.out.cell (World.block_lt_of_cell? w _ hw778_0)).trans hw778_0), ((HB.out.cell (World.block_lt_of_cell? w _ hw778_1)).trans hw778_1), ((HB.out.cell (World.block_lt_of_cell? w _ hw778_2)).trans hw778_2), ((HB.out.cell (World.block_lt_of_cell? w _ hw778_3)).trans hw778_3), ((HB.out.cell (World.block_lt_of_cell? w _ hw778_4)).trans hw778_4), ((HB.out.cell (World.block_lt_of_cell? w _ hw778_5)).trans hw778_5), ((HB.out.cell (World.block_lt_of_cell? w _ hw778_6)).trans hw778_6), ((HB.out.cell (World.block_lt_of_cell? w _ hw778_7)).trans hw778_7)⟩ (fun hHeld => ?_)
        clear hK K
        refine norm_ (a' := ?_) ?_ ?_
        rotate_left
        ·
         show Act.put _ (some 18) _ = _
         simp only [Act.put, List.setIfInBounds_toArray, List.set_cons_zero, List.set_cons_succ, i64_w, i32_w]
         rfl
        refine pure_ (i := 7) (N := some 19) (v := ?_) (a' := ?_) #[true, true, true, true, true, true, true, true] rfl rfl (any_of HT_.out z27_4) (fun _ _ _ h => h) (Or.inl ⟨by rfl, ?_⟩) ?_ ?_
        rotate_left
        ·
         exact z27_3
        rotate_left
        ·
         exact z27_0
        refine done_ (done_of HT_.out z27_4) ?_
        have p780 : 0 ≤ (x5_1 : Int) := of_decide_eq_true z27_1
        have q780 : x5_1 < (l0.length : Int) := of_decide_eq_true z27_1
        obtain ⟨ad780, e780, hx780_0, hx780_1, hx780_2, hx780_3, hx780_4, hx780_5, hx780_6, hx780_7⟩ := at_T167 HR0.out x5_1 p780 q780
        obtain rfl : ad778 = ad780 := (by injection e780)
        replace hx780_0 := (HB.out.cell (World.block_lt_of_cell? w _ hx780_0)).trans hx780_0
        replace hx780_1 := (HB.out.cell (World.block_lt_of_cell? w _ hx780_1)).trans hx780_1
        replace hx780_2 := (HB.out.cell (World.block_lt_of_cell? w _ hx780_2)).trans hx780_2
        replace hx780_3 := (HB.out.cell (World.block_lt_of_cell? w _ hx780_3)).trans hx780_3
        replace hx780_4 := (HB.out.cell (World.block_lt_of_cell? w _ hx780_4)).trans hx780_4
        replace hx780_5 := (HB.out.cell (World.block_lt_of_cell? w _ hx780_5)).trans hx780_5
        replace hx780_6 := (HB.out.cell (World.block_lt_of_cell? w _ hx780_6)).trans hx780_6
        replace hx780_7 := (HB.out.cell (World.block_lt_of_cell? w _ hx780_7)).trans hx780_7
        replace p780 := eq_true p780
        replace q780 := eq_true q780
        have p781 : 0 ≤ (x5_1 : Int) := of_decide_eq_true z27_1
        have q781 : x5_1 < (l0.length : Int) := of_decide_eq_true z27_1
        obtain ⟨ad781, e781, hx781_0, hx781_1, hx781_2, hx781_3, hx781_4, hx781_5, hx781_6, hx781_7⟩ := at_T167 HR0.out x5_1 p781 q781
        obtain rfl : ad778 = ad781 := (by injection e781)
        replace hx781_0 := (HB.out.cell (World.block_lt_of_cell? w _ hx781_0)).trans hx781_0
        replace hx781_1 := (HB.out.cell (World.block_lt_of_cell? w _ hx781_1)).trans hx781_1
        replace hx781_2 := (HB.out.cell (World.block_lt_of_cell? w _ hx781_2)).trans hx781_2
        replace hx781_3 := (HB.out.cell (World.block_lt_of_cell? w _ hx781_3)).trans hx781_3
        replace hx781_4 := (HB.out.cell (World.block_lt_of_cell? w _ hx781_4)).trans hx781_4
        replace hx781_5 := (HB.out.cell (World.block_lt_of_cell? w _ hx781_5)).trans hx781_5
        replace hx781_6 := (HB.out.cell (World.block_lt_of_cell? w _ hx781_6)).trans hx781_6
        replace hx781_7 := (HB.out.cell (World.block_lt_of_cell? w _ hx781_7)).trans hx781_7
        replace p781 := eq_true p781
        replace q781 := eq_true q781
        try go_wp2
        go_ret
        exact ⟨z27_5, z27_2⟩
      ·
       rw [if_neg c7] at H
       have c7b0 : (((rd_T167 l0 x5_1).f1.f0) == (wrap64 (x1_1 + 1))) = false := beq_eq_false_iff_ne.mpr c7
       have c7b1 : (((rd_T167 l0 x5_1).f1.f0) != (wrap64 (x1_1 + 1))) = true := bne_iff_ne.mpr c7
       obtain rfl := Option.some.inj H
       try go_wp2
       have n0_ := Aside0.mk (below_drew1 HB.out)
       clear HB
       have HB := n0_
       clear n0_
       have p778 : 0 ≤ (x5_1 : Int) := of_decide_eq_true z27_1
       have q778 : x5_1 < (l0.length : Int) := of_decide_eq_true z27_1
       obtain ⟨ad778, e778, hx778_0, hx778_1, hx778_2, hx778_3, hx778_4, hx778_5, hx778_6, hx778_7⟩ := at_T167 HR0.out x5_1 p778 q778
       have hw778_7 := hx778_7
       have hw778_6 := hx778_6
       have hw778_5 := hx778_5
       have hw778_4 := hx778_4
       have hw778_3 := hx778_3
       have hw778_2 := hx778_2
       have hw778_1 := hx778_1
       have hw778_0 := hx778_0
       cases e778
       replace hx778_0 := (HB.out.cell (World.block_lt_of_cell? w _ hx778_0)).trans hx778_0
       replace hx778_1 := (HB.out.cell (World.block_lt_of_cell? w _ hx778_1)).trans hx778_1
       replace hx778_2 := (HB.out.cell (World.block_lt_of_cell? w _ hx778_2)).trans hx778_2
       replace hx778_3 := (HB.out.cell (World.block_lt_of_cell? w _ hx778_3)).trans hx778_3
       replace hx778_4 := (HB.out.cell (World.block_lt_of_cell? w _ hx778_4)).trans hx778_4
       replace hx778_5 := (HB.out.cell (World.block_lt_of_cell? w _ hx778_5)).trans hx778_5
       replace hx778_6 := (HB.out.cell (World.block_lt_of_cell? w _ hx778_6)).trans hx778_6
       replace hx778_7 := (HB.out.cell (World.block_lt_of_cell? w _ hx778_7)).trans hx778_7
       replace p778 := eq_true p778
       replace q778 := eq_true q778
       refine start_ (n := 8) (S := fun w' => w'.cell? (ad778.add ((x5_1).toNat * 8)) = some (.string ((rd_T167 l0 x5_1).f0)) ∧ w'.cell? ⟨(ad778.add ((x5_1).toNat * 8)).block, (ad778.add ((x5_1).toNat * 8)).off + 1, none⟩ = some (.int .i64 ((rd_T167 l0 x5_1).f1.f0)) ∧ w'.cell? ⟨(ad778.add ((x5_1).toNat * 8)).block, (ad778.add ((x5_1).toNat * 8)).off + 2, none⟩ = some (.int .i64 ((rd_T167 l0 x5_1).f1.f1)) ∧ w'.cell? ⟨(ad778.add ((x5_1).toNat * 8)).block, (ad778.add ((x5_1).toNat * 8)).off + 3, none⟩ = some (.int .i64 ((rd_T167 l0 x5_1).f2)) ∧ w'.cell? ⟨(ad778.add ((x5_1).toNat * 8)).block, (ad778.add ((x5_1).toNat * 8)).off + 4, none⟩ = some (.int .i64 ((rd_T167 l0 x5_1).f3.f0)) ∧ w'.cell? ⟨(ad778.add ((x5_1).toNat * 8)).block, (ad778.add ((x5_1).toNat * 8)).off + 5, none⟩ = some (.int .i64 ((rd_T167 l0 x5_1).f3.f1)) ∧ w'.cell? ⟨(ad778.add ((x5_1).toNat * 8)).block, (ad778.add ((x5_1).toNat * 8)).off + 6, none⟩ = some (.int .i64 ((rd_T167 l0 x5_1).f4)) ∧ w'.cell? ⟨(ad778.add ((x5_1).toNat * 8)).block, (ad778.add ((x5_1).toNat * 8)).off + 7, none⟩ = some (.bool ((rd_T167 l0 x5_1).f5))) (ds := []) #[false, false, false, false, false, false, false, false] z27_4 rfl rfl ⟨((HB.out.cell (World.block_lt_of_cell? w _ hw778_0)).trans hw778_0), ((HB.out.cell (World.block_lt_of_cell? w _ hw778_1)).trans hw778_1), ((HB.out.cell (World.block_lt_of_cell? w _ hw778_2)).trans hw778_2), ((HB.out.cell (World.block_lt_of_cell? w _ hw778_3)).trans hw778_3), ((HB.out.cell (World.block_lt_of_cell? w _ hw778_4)).trans hw778_4), ((HB.out.cell (World.block_lt_of_cell? w _ hw778_5)).trans hw778_5), ((HB.out.cell (World.block_lt_of_cell? w _ hw778_6)).trans hw778_6), ((HB.out.cell (World.block_lt_of_cell? w _ hw778_7)).trans hw778_7)⟩ (fun hHeld => ?_); refine with_tabW laws_heldCellS.tab4 laws_heldCellS.bits4 (fun HT_ HW_ => ?_)
       generalize wr.drew = w28 at HB hx778_0 hx778_1 hx778_2 hx778_3 hx778_4 hx778_5 hx778_6 hx778_7 hHeld ⊢
       refine pure_ (i := 0) (N := some 12) (v := ?_) (a' := ?_) #[true, false, false, false, false, false, false, false] rfl rfl (any_of HT_.out z27_4) (fun _ _ _ h => h) (Or.inl ⟨by rfl, ?_⟩) ?_ ?_
       rotate_left
       ·
        exact z27_3
       rotate_left
       ·
        exact z27_0
       refine pure_ (i := 1) (N := some 13) (v := ?_) (a' := ?_) #[true, true, false, false, false, false, false, false] rfl rfl (any_of HT_.out z27_4) (fun _ _ _ h => h) (Or.inl ⟨by rfl, ?_⟩) ?_ ?_
       rotate_left
       ·
        exact z27_3
       rotate_left
       ·
        exact z27_0
       refine pure_ (i := 2) (N := some 14) (v := ?_) (a' := ?_) #[true, true, true, false, false, false, false, false] rfl rfl (any_of HT_.out z27_4) (fun _ _ _ h => h) (Or.inl ⟨by rfl, ?_⟩) ?_ ?_
       rotate_left
       ·
        exact z27_3
       rotate_left
       ·
        exact z27_0
       refine pure_ (i := 3) (N := some 15) (v := ?_) (a' := ?_) #[true, true, true, true, false, false, false, false] rfl rfl (any_of HT_.out z27_4) (fun _ _ _ h => h) (Or.inl ⟨by rfl, ?_⟩) ?_ ?_
       rotate_left
       ·
        exact z27_3
       rotate_left
       ·
        exact z27_0
       refine pure_ (i := 5) (N := some 17) (v := ?_) (a' := ?_) #[true, true, true, true, false, true, false, false] rfl rfl (any_of HT_.out z27_4) (fun _ _ _ h => h) (Or.inl ⟨by rfl, ?_⟩) ?_ ?_
       rotate_left
       ·
        exact z27_3
       rotate_left
       ·
        exact z27_0
       refine take_ (i := 4) (N := some 16) (v := ?_) (a' := ?_) #[true, true, true, true, true, true, false, false] rfl rfl (take_ofW HT_.out HW_.out z27_4) (fun _ _ _ h => h) (Or.inl ⟨by rfl, ?_⟩) hHeld ?_ ?_
       rotate_left
       ·
        rintro w' ⟨s0, s1, s2, s3, s4, s5, s6, s7⟩
        go_simp
        with_reducible rfl
       rotate_left
       ·
        exact z27_0
       refine one_ (i := 6) (N := some 18) #[true, true, true, true, true, true, true, false] rfl rfl (one_of HT_.out z27_4) (by decide) (fun K hK => ?_)
       refine goes_ Try.func119 z27_4 rfl #[.int .i64 x1_1] (by rfl) rfl rfl z27_6 ?_
       with_reducible refine (laws_markText.calls k1 x1_1 t779 _ A5.out).mono ?_
       rintro e w29 ⟨rfl, hb⟩
       refine ⟨_, rfl, ?_⟩
       have n0_ := Aside0.mk (below_step z27_2 hb)
       clear HB
       have HB := n0_
       clear n0_
       (try clear hb)
       (try clear hb2)
       (try clear hk)
       (try clear hi)
       refine hK.out _ _ ⟨((HB.out.cell (World.block_lt_of_cell? w _ hw778_0)).trans hw778_0), ((HB.out.cell (World.block_lt_of_cell? w _ hw778_1)).trans hw778_1), ((HB.out.cell (World.block_lt_of_cell? w _ hw778_2)).trans hw778_2), ((HB.out.cell (World.block_lt_of_cell? w _ hw778_3)).trans hw778_3), ((HB.out.cell (World.block_lt_of_cell? w _ hw778_4)).trans hw778_4), ((HB.out.cell (World.block_lt_of_cell? w _ hw778_5)).trans hw778_5), ((HB.out.cell (World.block_lt_of_cell? w _ hw778_6)).trans hw778_6), ((HB.out.cell (World.block_lt_of_cell? w _ hw778_7)).trans hw778_7)⟩ (fun hHeld => ?_)
       clear hK K
       refine norm_ (a' := ?_) ?_ ?_
       rotate_left
       ·
        show Act.put _ (some 18) _ = _
        simp only [Act.put, List.setIfInBounds_toArray, List.set_cons_zero, List.set_cons_succ, i64_w, i32_w]
        rfl
       refine pure_ (i := 7) (N := some 19) (v := ?_) (a' := ?_) #[true, true, true, true, true, true, true, true] rfl rfl (any_of HT_.out z27_4) (fun _ _ _ h => h) (Or.inl ⟨by rfl, ?_⟩) ?_ ?_
       rotate_left
       ·
        exact z27_3
       rotate_left
       ·
        exact z27_0
       refine done_ (done_of HT_.out z27_4) ?_
       have p780 : 0 ≤ (x5_1 : Int) := of_decide_eq_true z27_1
       have q780 : x5_1 < (l0.length : Int) := of_decide_eq_true z27_1
       obtain ⟨ad780, e780, hx780_0, hx780_1, hx780_2, hx780_3, hx780_4, hx780_5, hx780_6, hx780_7⟩ := at_T167 HR0.out x5_1 p780 q780
       obtain rfl : ad778 = ad780 := (by injection e780)
       replace hx780_0 := (HB.out.cell (World.block_lt_of_cell? w _ hx780_0)).trans hx780_0
       replace hx780_1 := (HB.out.cell (World.block_lt_of_cell? w _ hx780_1)).trans hx780_1
       replace hx780_2 := (HB.out.cell (World.block_lt_of_cell? w _ hx780_2)).trans hx780_2
       replace hx780_3 := (HB.out.cell (World.block_lt_of_cell? w _ hx780_3)).trans hx780_3
       replace hx780_4 := (HB.out.cell (World.block_lt_of_cell? w _ hx780_4)).trans hx780_4
       replace hx780_5 := (HB.out.cell (World.block_lt_of_cell? w _ hx780_5)).trans hx780_5
       replace hx780_6 := (HB.out.cell (World.block_lt_of_cell? w _ hx780_6)).trans hx780_6
       replace hx780_7 := (HB.out.cell (World.block_lt_of_cell? w _ hx780_7)).trans hx780_7
       replace p780 := eq_true p780
       replace q780 := eq_true q780
       try go_wp2
       go_ret
       exact ⟨z27_5, z27_2⟩
     ·
      rw [if_neg c6] at H
      have c6b0 : (((rd_T167 l0 x5_1).f0).toList == t779.toList) = false := beq_eq_false_iff_ne.mpr c6
      have c6b1 : (((rd_T167 l0 x5_1).f0).toList != t779.toList) = true := bne_iff_ne.mpr c6
      obtain rfl := Option.some.inj H
      try go_wp2
      have n0_ := Aside0.mk (below_drew1 HB.out)
      clear HB
      have HB := n0_
      clear n0_
      have p778 : 0 ≤ (x5_1 : Int) := of_decide_eq_true z27_1
      have q778 : x5_1 < (l0.length : Int) := of_decide_eq_true z27_1
      obtain ⟨ad778, e778, hx778_0, hx778_1, hx778_2, hx778_3, hx778_4, hx778_5, hx778_6, hx778_7⟩ := at_T167 HR0.out x5_1 p778 q778
      have hw778_7 := hx778_7
      have hw778_6 := hx778_6
      have hw778_5 := hx778_5
      have hw778_4 := hx778_4
      have hw778_3 := hx778_3
      have hw778_2 := hx778_2
      have hw778_1 := hx778_1
      have hw778_0 := hx778_0
      cases e778
      replace hx778_0 := (HB.out.cell (World.block_lt_of_cell? w _ hx778_0)).trans hx778_0
      replace hx778_1 := (HB.out.cell (World.block_lt_of_cell? w _ hx778_1)).trans hx778_1
      replace hx778_2 := (HB.out.cell (World.block_lt_of_cell? w _ hx778_2)).trans hx778_2
      replace hx778_3 := (HB.out.cell (World.block_lt_of_cell? w _ hx778_3)).trans hx778_3
      replace hx778_4 := (HB.out.cell (World.block_lt_of_cell? w _ hx778_4)).trans hx778_4
      replace hx778_5 := (HB.out.cell (World.block_lt_of_cell? w _ hx778_5)).trans hx778_5
      replace hx778_6 := (HB.out.cell (World.block_lt_of_cell? w _ hx778_6)).trans hx778_6
      replace hx778_7 := (HB.out.cell (World.block_lt_of_cell? w _ hx778_7)).trans hx778_7
      replace p778 := eq_true p778
      replace q778 := eq_true q778
      refine start_ (n := 8) (S := fun w' => w'.cell? (ad778.add ((x5_1).toNat * 8)) = some (.string ((rd_T167 l0 x5_1).f0)) ∧ w'.cell? ⟨(ad778.add ((x5_1).toNat * 8)).block, (ad778.add ((x5_1).toNat * 8)).off + 1, none⟩ = some (.int .i64 ((rd_T167 l0 x5_1).f1.f0)) ∧ w'.cell? ⟨(ad778.add ((x5_1).toNat * 8)).block, (ad778.add ((x5_1).toNat * 8)).off + 2, none⟩ = some (.int .i64 ((rd_T167 l0 x5_1).f1.f1)) ∧ w'.cell? ⟨(ad778.add ((x5_1).toNat * 8)).block, (ad778.add ((x5_1).toNat * 8)).off + 3, none⟩ = some (.int .i64 ((rd_T167 l0 x5_1).f2)) ∧ w'.cell? ⟨(ad778.add ((x5_1).toNat * 8)).block, (ad778.add ((x5_1).toNat * 8)).off + 4, none⟩ = some (.int .i64 ((rd_T167 l0 x5_1).f3.f0)) ∧ w'.cell? ⟨(ad778.add ((x5_1).toNat * 8)).block, (ad778.add ((x5_1).toNat * 8)).off + 5, none⟩ = some (.int .i64 ((rd_T167 l0 x5_1).f3.f1)) ∧ w'.cell? ⟨(ad778.add ((x5_1).toNat * 8)).block, (ad778.add ((x5_1).toNat * 8)).off + 6, none⟩ = some (.int .i64 ((rd_T167 l0 x5_1).f4)) ∧ w'.cell? ⟨(ad778.add ((x5_1).toNat * 8)).block, (ad778.add ((x5_1).toNat * 8)).off + 7, none⟩ = some (.bool ((rd_T167 l0 x5_1).f5))) (ds := []) #[false, false, false, false, false, false, false, false] z27_4 rfl rfl ⟨((HB.out.cell (World.block_lt_of_cell? w _ hw778_0)).trans hw778_0), ((HB.out.cell (World.block_lt_of_cell? w _ hw778_1)).trans hw778_1), ((HB.out.cell (World.block_lt_of_cell? w _ hw778_2)).trans hw778_2), ((HB.out.cell (World.block_lt_of_cell? w _ hw778_3)).trans hw778_3), ((HB.out.cell (World.block_lt_of_cell? w _ hw778_4)).trans hw778_4), ((HB.out.cell (World.block_lt_of_cell? w _ hw778_5)).trans hw778_5), ((HB.out.cell (World.block_lt_of_cell? w _ hw778_6)).trans hw778_6), ((HB.out.cell (World.block_lt_of_cell? w _ hw778_7)).trans hw778_7)⟩ (fun hHeld => ?_); refine with_tabW laws_heldCellS.tab4 laws_heldCellS.bits4 (fun HT_ HW_ => ?_)
      generalize wr.drew = w30 at HB hx778_0 hx778_1 hx778_2 hx778_3 hx778_4 hx778_5 hx778_6 hx778_7 hHeld ⊢
      refine pure_ (i := 0) (N := some 12) (v := ?_) (a' := ?_) #[true, false, false, false, false, false, false, false] rfl rfl (any_of HT_.out z27_4) (fun _ _ _ h => h) (Or.inl ⟨by rfl, ?_⟩) ?_ ?_
      rotate_left
      ·
       exact z27_3
      rotate_left
      ·
       exact z27_0
      refine pure_ (i := 1) (N := some 13) (v := ?_) (a' := ?_) #[true, true, false, false, false, false, false, false] rfl rfl (any_of HT_.out z27_4) (fun _ _ _ h => h) (Or.inl ⟨by rfl, ?_⟩) ?_ ?_
      rotate_left
      ·
       exact z27_3
      rotate_left
      ·
       exact z27_0
      refine pure_ (i := 2) (N := some 14) (v := ?_) (a' := ?_) #[true, true, true, false, false, false, false, false] rfl rfl (any_of HT_.out z27_4) (fun _ _ _ h => h) (Or.inl ⟨by rfl, ?_⟩) ?_ ?_
      rotate_left
      ·
       exact z27_3
      rotate_left
      ·
       exact z27_0
      refine pure_ (i := 3) (N := some 15) (v := ?_) (a' := ?_) #[true, true, true, true, false, false, false, false] rfl rfl (any_of HT_.out z27_4) (fun _ _ _ h => h) (Or.inl ⟨by rfl, ?_⟩) ?_ ?_
      rotate_left
      ·
       exact z27_3
      rotate_left
      ·
       exact z27_0
      refine pure_ (i := 5) (N := some 17) (v := ?_) (a' := ?_) #[true, true, true, true, false, true, false, false] rfl rfl (any_of HT_.out z27_4) (fun _ _ _ h => h) (Or.inl ⟨by rfl, ?_⟩) ?_ ?_
      rotate_left
      ·
       exact z27_3
      rotate_left
      ·
       exact z27_0
      refine take_ (i := 4) (N := some 16) (v := ?_) (a' := ?_) #[true, true, true, true, true, true, false, false] rfl rfl (take_ofW HT_.out HW_.out z27_4) (fun _ _ _ h => h) (Or.inl ⟨by rfl, ?_⟩) hHeld ?_ ?_
      rotate_left
      ·
       rintro w' ⟨s0, s1, s2, s3, s4, s5, s6, s7⟩
       go_simp
       with_reducible rfl
      rotate_left
      ·
       exact z27_0
      refine one_ (i := 6) (N := some 18) #[true, true, true, true, true, true, true, false] rfl rfl (one_of HT_.out z27_4) (by decide) (fun K hK => ?_)
      refine goes_ Try.func119 z27_4 rfl #[.int .i64 x1_1] (by rfl) rfl rfl z27_6 ?_
      with_reducible refine (laws_markText.calls k1 x1_1 t779 _ A5.out).mono ?_
      rintro e w31 ⟨rfl, hb⟩
      refine ⟨_, rfl, ?_⟩
      have n0_ := Aside0.mk (below_step z27_2 hb)
      clear HB
      have HB := n0_
      clear n0_
      (try clear hb)
      (try clear hb2)
      (try clear hk)
      (try clear hi)
      refine hK.out _ _ ⟨((HB.out.cell (World.block_lt_of_cell? w _ hw778_0)).trans hw778_0), ((HB.out.cell (World.block_lt_of_cell? w _ hw778_1)).trans hw778_1), ((HB.out.cell (World.block_lt_of_cell? w _ hw778_2)).trans hw778_2), ((HB.out.cell (World.block_lt_of_cell? w _ hw778_3)).trans hw778_3), ((HB.out.cell (World.block_lt_of_cell? w _ hw778_4)).trans hw778_4), ((HB.out.cell (World.block_lt_of_cell? w _ hw778_5)).trans hw778_5), ((HB.out.cell (World.block_lt_of_cell? w _ hw778_6)).trans hw778_6), ((HB.out.cell (World.block_lt_of_cell? w _ hw778_7)).trans hw778_7)⟩ (fun hHeld => ?_)
      clear hK K
      refine norm_ (a' := ?_) ?_ ?_
      rotate_left
      ·
       show Act.put _ (some 18) _ = _
       simp only [Act.put, List.setIfInBounds_toArray, List.set_cons_zero, List.set_cons_succ, i64_w, i32_w]
       rfl
      refine pure_ (i := 7) (N := some 19) (v := ?_) (a' := ?_) #[true, true, true, true, true, true, true, true] rfl rfl (any_of HT_.out z27_4) (fun _ _ _ h => h) (Or.inl ⟨by rfl, ?_⟩) ?_ ?_
      rotate_left
      ·
       exact z27_3
      rotate_left
      ·
       exact z27_0
      refine done_ (done_of HT_.out z27_4) ?_
      try go_wp2
      go_ret
      exact ⟨z27_5, z27_2⟩
    ·
     rw [if_neg c4] at H
     exact absurd H (by simp)
   ·
    rw [if_neg c3] at H
    have c3b0 : decide (x5_1 < (l0.length : Int)) = false := decide_eq_false c3
    clear c3
    obtain rfl := Option.some.inj H
    go_wp2
    go_ret
    exact ⟨z27_5, z27_2⟩
end Go.Proofs.Ytmohbiagcbfkpaa.QAct
