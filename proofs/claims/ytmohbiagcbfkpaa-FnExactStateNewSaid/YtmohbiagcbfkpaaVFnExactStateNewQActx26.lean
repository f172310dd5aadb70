/- What the functions behind Act compute, and that the program's calls come to just that. Written by a program of this session on the base of the kit's print. No condition. -/
import Derived.Test.YtmohbiagcbfkpaaVFnExactStateNewQActx0
import Derived.Test.YtmohbiagcbfkpaaVFnExactStateNewQActx22
namespace Go.Proofs.Ytmohbiagcbfkpaa.QAct
open Go.RowKit Go.Proofs.YtmohbiagcbfkpaaW.PrintWords Go.Proofs.YtmohbiagcbfkpaaW.PrintLast Go.Proofs.YtmohbiagcbfkpaaW.PrintMore
attribute [local go_sem] max2_int min2_int max_two min_two max_three min_three max_four min_four   -- for this text's walks alone
set_option linter.unusedVariables false
set_option linter.unusedSimpArgs false
theorem z26_7 {P : Prop} (h : P := by first | rfl | (simp; done) | (simp [*]; done)) : P := h
theorem z26_6 {P : Prop} (h : P := by first | rfl | (simp only [List.map_toArray, List.map_cons, List.map_nil]; first | done | rfl)) : P := h
theorem z26_5 {P : Prop} (h : P := by first | rfl | (simp [errW_none, errW_some] <;> rfl) | (simp [*, errW_none, errW_some] <;> rfl)) : P := h
theorem z26_4 {P : Prop} (h : P := by kernel_rfl) : P := h
theorem z26_3 {P : Prop} (h : P := by first | (with_reducible assumption) | assumption) : P := h
theorem z26_2 {P : Prop} (h : P := by intro w'; go_simp; with_reducible rfl) : P := h
theorem z26_1 {P : Prop} (h : P := by repeat (first | (with_reducible first | exact HB.out | apply below_alloc | apply pw_below_drewN | apply below_drew1) | exact HB.out)) : P := h
theorem z26_0 {P : Prop} (h : P := by simp only [Act.put, List.setIfInBounds_toArray, List.set_cons_zero, List.set_cons_succ, i64_w, i32_w]; rfl) : P := h
def laws_heldTallyS.l0 : Nat → List (S127) → Int → Int → Option (Int)
  | 0, _, _, _ => none
  | k + 1, x0, x1, x5 => if x5 < (x0.length : Int) then (if 0 ≤ x5 then ((laws_markText.f k x1).bind fun t775 => (if ((rd_T127 x0 x5).f0).toList = t775.toList then (if ((rd_T127 x0 x5).f1) = (wrap64 (x1 + 1)) then (if ((rd_T127 x0 x5).f2) = (wrap64 ((wrap64 (x1 + 1)) + 1)) then (laws_heldTallyS.l0 k x0 (wrap64 ((wrap64 ((wrap64 (x1 + 1)) + 1)) + 1)) (wrap64 (x5 + 1))) else (some (-1))) else (some (-1))) else (some (-1)))) else (none)) else (some x1)
def laws_heldTallyS.f (k : Nat) (l0 : List (S127)) (a1 : Int) : Option (Int) := laws_heldTallyS.l0 k l0 a1 0
def laws_heldTallyS.T4 : Bool × List (List Nat × List Nat) := (true, [([], []), ([], []), ([0, 1], [0, 1]), ([2], [2]), ([3], [3]), ([], []), ([5], [5]), ([4, 6], [4, 6])])
def laws_heldTallyS.B4 : List Nat := [0, 0, 3, 7, 15, 0, 32, 127]
theorem laws_heldTallyS.tab4 : rtab .any (opsOf Try.f121 4) = laws_heldTallyS.T4 := by kernel_rfl
theorem laws_heldTallyS.bits4 : waitsOk laws_heldTallyS.T4.2 laws_heldTallyS.B4 = true := by kernel_rfl
set_option maxHeartbeats 8000000 in
set_option maxRecDepth 100000 in
theorem laws_heldTallyS.calls (k : Nat) (A0 : Option Addr) (c0 : Nat) (l0 : List (S127)) (a1 : Int) (r : Int) (w : World) (hr0 : Kd.C k127 w A0 l0.length l0) (hc0 : l0.length ≤ c0) (h : laws_heldTallyS.f k l0 a1 = some r) :
  Calls Try.prog 121 #[.slice A0 l0.length c0, .int .i64 a1] w fun e w' => e = .returned (.int .i64 r) ∧ Below w.heap.size w w' := by
 have HR0 := Aside0.mk hr0
 have HC0 := Aside0.mk hc0
 clear hr0 hc0
 have HB := Aside0.mk (Below.refl w.heap.size w)
 have H : (laws_heldTallyS.l0 k l0 a1 0) = some r := h
 clear h
 have H' := Aside0.mk H
 clear H
 go_enter Try.func121, Try.ntmps121
 go_wp2
 go_loopg [1, 5] k (fun kq v1 v5 w' => ∃ (x1_1 : Int) (x5_1 : Int), v1 = .int .i64 x1_1 ∧ v5 = .int .i64 x5_1 ∧ Aside0 (laws_heldTallyS.l0 kq l0 x1_1 x5_1 = some r) ∧ Aside0 (kq ≤ k) ∧ Aside0 (Below w.heap.size w w'))
 case atStart => exact ⟨(a1), (0), z26_7, z26_7, H', ⟨Nat.le_refl _⟩, ⟨z26_1⟩⟩
 case round =>
  clear H'
  try clear c1
  try clear p2
  obtain ⟨x1_1, x5_1, rfl, rfl, HA, HK1, HB⟩ := hrel
  cases gk with
  | zero => exact absurd HA.out (by simp [laws_heldTallyS.l0])
  | succ k1 =>
   have H := HA.out
   clear HA
   simp only [laws_heldTallyS.l0] at H
   by_cases c3 : x5_1 < (l0.length : Int)
   ·
    rw [if_pos c3] at H
    have c3b0 : decide (x5_1 < (l0.length : Int)) = true := decide_eq_true c3
    clear c3
    by_cases c4 : 0 ≤ x5_1
    ·
     rw [if_pos c4] at H
     have c4b0 : decide (0 ≤ x5_1) = true := decide_eq_true c4
     clear c4
     replace H := Option.bind_eq_some_iff.mp H
     obtain ⟨t775, A50, H⟩ := H
     (try dsimp only at H)
     have A5 := Aside0.mk A50
     clear A50
     by_cases c6 : ((rd_T127 l0 x5_1).f0).toList = t775.toList
     ·
      rw [if_pos c6] at H
      have c6b0 : (((rd_T127 l0 x5_1).f0).toList == t775.toList) = true := beq_iff_eq.mpr c6
      have c6b1 : (((rd_T127 l0 x5_1).f0).toList != t775.toList) = false := bne_eq_false_iff_eq.mpr c6
      clear c6
      by_cases c7 : ((rd_T127 l0 x5_1).f1) = (wrap64 (x1_1 + 1))
      ·
       rw [if_pos c7] at H
       have c7b0 : (((rd_T127 l0 x5_1).f1) == (wrap64 (x1_1 + 1))) = true := beq_iff_eq.mpr c7
       have c7b1 : (((rd_T127 l0 x5_1).f1) != (wrap64 (x1_1 + 1))) = false := bne_eq_false_iff_eq.mpr c7
       clear c7
       by_cases c8 : ((rd_T127 l0 x5_1).f2) = (wrap64 ((wrap64 (x1_1 + 1)) + 1))
       ·
        rw [if_pos c8] at H
        have c8b0 : (((rd_T127 l0 x5_1).f2) == (wrap64 ((wrap64 (x1_1 + 1)) + 1))) = true := beq_iff_eq.mpr c8
        have c8b1 : (((rd_T127 l0 x5_1).f2) != (wrap64 ((wrap64 (x1_1 + 1)) + 1))) = false := bne_eq_false_iff_eq.mpr c8
        clear c8
        have H' := Aside0.mk H
        clear H
        try go_wp2
        have n0_ := Aside0.mk (below_drew1 HB.out)
        clear HB
        have HB := n0_
        clear n0_
        have p774 : 0 ≤ (x5_1 : Int) := of_decide_eq_true z26_3
        have q774 : x5_1 < (l0.length : Int) := of_decide_eq_true z26_3
        obtain ⟨ad774, e774, hx774_0, hx774_1, hx774_2⟩ := at_T127 HR0.out x5_1 p774 q774
        have hw774_2 := hx774_2
        have hw774_1 := hx774_1
        have hw774_0 := hx774_0
        cases e774
        replace hx774_0 := (HB.out.cell (World.block_lt_of_cell? w _ hx774_0)).trans hx774_0
        replace hx774_1 := (HB.out.cell (World.block_lt_of_cell? w _ hx774_1)).trans hx774_1
        replace hx774_2 := (HB.out.cell (World.block_lt_of_cell? w _ hx774_2)).trans hx774_2
        replace p774 := eq_true p774
        replace q774 := eq_true q774
        refine start_ (n := 8) (S := fun w' => w'.cell? (ad774.add ((x5_1).toNat * 3)) = some (.string ((rd_T127 l0 x5_1).f0)) ∧ w'.cell? ⟨(ad774.add ((x5_1).toNat * 3)).block, (ad774.add ((x5_1).toNat * 3)).off + 1, none⟩ = some (.int .i64 ((rd_T127 l0 x5_1).f1)) ∧ w'.cell? ⟨(ad774.add ((x5_1).toNat * 3)).block, (ad774.add ((x5_1).toNat * 3)).off + 2, none⟩ = some (.int .i64 ((rd_T127 l0 x5_1).f2))) (ds := []) #[false, false, false, false, false, false, false, false] z26_4 rfl rfl ⟨((HB.out.cell (World.block_lt_of_cell? w _ hw774_0)).trans hw774_0), ((HB.out.cell (World.block_lt_of_cell? w _ hw774_1)).trans hw774_1), ((HB.out.cell (World.block_lt_of_cell? w _ hw774_2)).trans hw774_2)⟩ (fun hHeld => ?_); refine with_tabW laws_heldTallyS.tab4 laws_heldTallyS.bits4 (fun HT_ HW_ => ?_)
        generalize wr.drew = w9 at HB hx774_0 hx774_1 hx774_2 hHeld ⊢
        refine pure_ (i := 0) (N := some 12) (v := ?_) (a' := ?_) #[true, false, false, false, false, false, false, false] rfl rfl (any_of HT_.out z26_4) (fun _ _ _ h => h) (Or.inl ⟨by rfl, ?_⟩) ?_ ?_
        rotate_left
        ·
         exact z26_2
        rotate_left
        ·
         exact z26_0
        refine pure_ (i := 1) (N := some 13) (v := ?_) (a' := ?_) #[true, true, false, false, false, false, false, false] rfl rfl (any_of HT_.out z26_4) (fun _ _ _ h => h) (Or.inl ⟨by rfl, ?_⟩) ?_ ?_
        rotate_left
        ·
         exact z26_2
        rotate_left
        ·
         exact z26_0
        refine pure_ (i := 2) (N := some 14) (v := ?_) (a' := ?_) #[true, true, true, false, false, false, false, false] rfl rfl (any_of HT_.out z26_4) (fun _ _ _ h => h) (Or.inl ⟨by rfl, ?_⟩) ?_ ?_
        rotate_left
        ·
         exact z26_2
        rotate_left
        ·
         exact z26_0
        refine pure_ (i := 3) (N := some 15) (v := ?_) (a' := ?_) #[true, true, true, true, false, false, false, false] rfl rfl (any_of HT_.out z26_4) (fun _ _ _ h => h) (Or.inl ⟨by rfl, ?_⟩) ?_ ?_
        rotate_left
        ·
         exact z26_2
        rotate_left
        ·
         exact z26_0
        refine pure_ (i := 5) (N := some 17) (v := ?_) (a' := ?_) #[true, true, true, true, false, true, false, false] rfl rfl (any_of HT_.out z26_4) (fun _ _ _ h => h) (Or.inl ⟨by rfl, ?_⟩) ?_ ?_
        rotate_left
        ·
         exact z26_2
        rotate_left
        ·
         exact z26_0
        refine take_ (i := 4) (N := some 16) (v := ?_) (a' := ?_) #[true, true, true, true, true, true, false, false] rfl rfl (take_ofW HT_.out HW_.out z26_4) (fun _ _ _ h => h) (Or.inl ⟨by rfl, ?_⟩) hHeld ?_ ?_
        rotate_left
        ·
         rintro w' ⟨s0, s1, s2⟩
         go_simp
         with_reducible rfl
        rotate_left
        ·
         exact z26_0
        refine one_ (i := 6) (N := some 18) #[true, true, true, true, true, true, true, false] rfl rfl (one_of HT_.out z26_4) (by decide) (fun K hK => ?_)
        refine goes_ Try.func119 z26_4 rfl #[.int .i64 x1_1] (by rfl) rfl rfl z26_6 ?_
        with_reducible refine (laws_markText.calls k1 x1_1 t775 _ A5.out).mono ?_
        rintro e w10 ⟨rfl, hb⟩
        refine ⟨_, rfl, ?_⟩
        have n0_ := Aside0.mk (below_step z26_1 hb)
        clear HB
        have HB := n0_
        clear n0_
        (try clear hb)
        (try clear hb2)
        (try clear hk)
        (try clear hi)
        refine hK.out _ _ ⟨((HB.out.cell (World.block_lt_of_cell? w _ hw774_0)).trans hw774_0), ((HB.out.cell (World.block_lt_of_cell? w _ hw774_1)).trans hw774_1), ((HB.out.cell (World.block_lt_of_cell? w _ hw774_2)).trans hw774_2)⟩ (fun hHeld => ?_)
        clear hK K
        refine norm_ (a' := ?_) ?_ ?_
        rotate_left
        ·
         show Act.put _ (some 18) _ = _
         simp only [Act.put, List.setIfInBounds_toArray, List.set_cons_zero, List.set_cons_succ, i64_w, i32_w]
         rfl
        refine pure_ (i := 7) (N := some 19) (v := ?_) (a' := ?_) #[true, true, true, true, true, true, true, true] rfl rfl (any_of HT_.out z26_4) (fun _ _ _ h => h) (Or.inl ⟨by rfl, ?_⟩) ?_ ?_
        rotate_left
        ·
         exact z26_2
        rotate_left
        ·
         exact z26_0
        refine done_ (done_of HT_.out z26_4) ?_
        have p776 : 0 ≤ (x5_1 : Int) := of_decide_eq_true z26_3
        have q776 : x5_1 < (l0.length : Int) := of_decide_eq_true z26_3
        obtain ⟨ad776, e776, hx776_0, hx776_1, hx776_2⟩ := at_T127 HR0.out x5_1 p776 q776
        obtain rfl : ad774 = ad776 := (by injection e776)
        replace hx776_0 := (HB.out.cell (World.block_lt_of_cell? w _ hx776_0)).trans hx776_0
        replace hx776_1 := (HB.out.cell (World.block_lt_of_cell? w _ hx776_1)).trans hx776_1
        replace hx776_2 := (HB.out.cell (World.block_lt_of_cell? w _ hx776_2)).trans hx776_2
        replace p776 := eq_true p776
        replace q776 := eq_true q776
        have p777 : 0 ≤ (x5_1 : Int) := of_decide_eq_true z26_3
        have q777 : x5_1 < (l0.length : Int) := of_decide_eq_true z26_3
        obtain ⟨ad777, e777, hx777_0, hx777_1, hx777_2⟩ := at_T127 HR0.out x5_1 p777 q777
        obtain rfl : ad774 = ad777 := (by injection e777)
        replace hx777_0 := (HB.out.cell (World.block_lt_of_cell? w _ hx777_0)).trans hx777_0
        replace hx777_1 := (HB.out.cell (World.block_lt_of_cell? w _ hx777_1)).trans hx777_1
        replace hx777_2 := (HB.out.cell (World.block_lt_of_cell? w _ hx777_2)).trans hx777_2
        replace p777 := eq_true p777
        replace q777 := eq_true q777
        try go_wp2
        go_roundg k1
        case measure => have := HK1.out; omega
        case rel => exact ⟨(wrap64 ((wrap64 ((wrap64 (x1_1 + 1)) + 1)) + 1)), (wrap64 (x5_1 + 1)), z26_7, z26_7, H', ⟨by have := HK1.out; omega⟩, ⟨z26_1⟩⟩
       ·
        rw [if_neg c8] at H
        have c8b0 : (((rd_T127 l0 x5_1).f2) == (wrap64 ((wrap64 (x1_1 + 1)) + 1))) = false := beq_eq_false_iff_ne.mpr c8
        have c8b1 : (((rd_T127 l0 x5_1).f2) != (wrap64 ((wrap64 (x1_1 + 1)) + 1))) = true := bne_iff_ne.mpr c8
        obtain rfl := Option.some.inj H
        try go_wp2
        have n0_ := Aside0.mk (below_drew1 HB.out)
        clear HB
        have HB := n0_
        clear n0_
        have p774 : 0 ≤ (x5_1 : Int) := of_decide_eq_true z26_3
        have q774 : x5_1 < (l0.length : Int) := of_decide_eq_true z26_3
        obtain ⟨ad774, e774, hx774_0, hx774_1, hx774_2⟩ := at_T127 HR0.out x5_1 p774 q774
        have hw774_2 := hx774_2
        have hw774_1 := hx774_1
        have hw774_0 := hx774_0
        cases e774
        replace hx774_0 := (HB.out.cell (World.block_lt_of_cell? w _ hx774_0)).trans hx774_0
        replace hx774_1 := (HB.out.cell (World.block_lt_of_cell? w _ hx774_1)).trans hx774_1
        replace hx774_2 := (HB.out.cell (World.block_lt_of_cell? w _ hx774_2)).trans hx774_2
        replace p774 := eq_true p774
        replace q774 := eq_true q774
        refine start_ (n := 8) (S := fun w' => w'.cell? (ad774.add ((x5_1).toNat * 3)) = some (.string ((rd_T127 l0 x5_1).f0)) ∧ w'.cell? ⟨(ad774.add ((x5_1).toNat * 3)).block, (ad774.add ((x5_1).toNat * 3)).off + 1, none⟩ = some (.int .i64 ((rd_T127 l0 x5_1).f1)) ∧ w'.cell? ⟨(ad774.add ((x5_1).toNat * 3)).block, (ad774.add ((x5_1).toNat * 3)).off + 2, none⟩ = some (.int .i64 ((rd_T127 l0 x5_1).f2))) (ds := []) #[false, false, false, false, false, false, false, false] z26_4 rfl rfl ⟨((HB.out.cell (World.block_lt_of_cell? w _ hw774_0)).trans hw774_0), ((HB.out.cell (World.block_lt_of_cell? w _ hw774_1)).trans hw774_1), ((HB.out.cell (World.block_lt_of_cell? w _ hw774_2)).trans hw774_2)⟩ (fun hHeld => ?_); refine with_tabW laws_heldTallyS.tab4 laws_heldTallyS.bits4 (fun HT_ HW_ => ?_)
        generalize wr.drew = w11 at HB hx774_0 hx774_1 hx774_2 hHeld ⊢
        refine pure_ (i := 0) (N := some 12) (v := ?_) (a' := ?_) #[true, false, false, false, false, false, false, false] rfl rfl (any_of HT_.out z26_4) (fun _ _ _ h => h) (Or.inl ⟨by rfl, ?_⟩) ?_ ?_
        rotate_left
        ·
         exact z26_2
        rotate_left
        ·
         exact z26_0
        refine pure_ (i := 1) (N := some 13) (v := ?_) (a' := ?_) #[true, true, false, false, false, false, false, false] rfl rfl (any_of HT_.out z26_4) (fun _ _ _ h => h) (Or.inl ⟨by rfl, ?_⟩) ?_ ?_
        rotate_left
        ·
         exact z26_2
        rotate_left
        ·
         exact z26_0
        refine pure_ (i := 2) (N := some 14) (v := ?_) (a' := ?_) #[true, true, true, false, false, false, false, false] rfl rfl (any_of HT_.out z26_4) (fun _ _ _ h => h) (Or.inl ⟨by rfl, ?_⟩) ?_ ?_
        rotate_left
        ·
         exact z26_2
        rotate_left
        ·
         exact z26_0
        refine pure_ (i := 3) (N := some 15) (v := ?_) (a' := ?_) #[true, true, true, true, false, false, false, false] rfl rfl (any_of HT_.out z26_4) (fun _ _ _ h => h) (Or.inl ⟨by rfl, ?_⟩) ?_ ?_
        rotate_left
        ·
         exact z26_2
        rotate_left
        ·
         exact z26_0
        refine pure_ (i := 5) (N := some 17) (v := ?_) (a' := ?_) #[true, true, true, true, false, true, false, false] rfl rfl (any_of HT_.out z26_4) (fun _ _ _ h => h) (Or.inl ⟨by rfl, ?_⟩) ?_ ?_
        rotate_left
        ·
         exact z26_2
        rotate_left
        ·
         exact z26_0
        refine take_ (i := 4) (N := some 16) (v := ?_) (a' := ?_) #[true, true, true, true, true, true, false, false] rfl rfl (take_ofW HT_.out HW_.out z26_4) (fun _ _ _ h => h) (Or.inl ⟨by rfl, ?_⟩) hHeld ?_ ?_
        rotate_left
        ·
         rintro w' ⟨s0, s1, s2⟩
         go_simp
         with_reducible rfl
        rotate_left
        ·
         exact z26_0
        refine one_ (i := 6) (N := some 18) #[true, true, true, true, true, true, true, false] rfl rfl (one_of HT_.out z26_4) (by decide) (fun K hK => ?_)
        refine goes_ Try.func119 z26_4 rfl #[.int .i64 x1_1] (by rfl) rfl rfl z26_6 ?_
        with_reducible refine (laws_markText.calls k1 x1_1 t775 _ A5.out).mono ?_
        rintro e w12 ⟨rfl, hb⟩
        refine ⟨_, rfl, ?_⟩
        have n0_ := Aside0.mk (below_step z26_1 hb)
        clear HB
        have HB := n0_
        clear n0_
        (try clear hb)
        (try clear hb2)
        (try clear hk)
        (try clear hi)
        refine hK.out _ _ ⟨((HB.out.cell (World.block_lt_of_cell? w _ hw774_0)).trans hw774_0), ((HB.out.cell (World.block_lt_of_cell? w _ hw774_1)).trans hw774_1), ((HB.out.cell (World.block_lt_of_cell? w _ hw774_2)).trans hw774_2)⟩ (fun hHeld => ?_)
        clear hK K
        refine norm_ (a' := ?_) ?_ ?_
        rotate_left
        ·
         show Act.put _ (some 18) _ = _
         simp only [Act.put, List.setIfInBounds_toArray, List.set_cons_zero, List.set_cons_succ, i64_w, i32_w]
         rfl
        refine pure_ (i := 7) (N := some 19) (v := ?_) (a' := ?_) #[true, true, true, true, true, true, true, true] rfl rfl (any_of HT_.out z26_4) (fun _ _ _ h => h) (Or.inl ⟨by rfl, ?_⟩) ?_ ?_
        rotate_left
        ·
         exact z26_2
        rotate_left
        ·
         exact z26_0
        refine done_ (done_of HT_.out z26_4) ?_
        have p776 : 0 ≤ (x5_1 : Int) := of_decide_eq_true z26_3
        have q776 : x5_1 < (l0.length : Int) := of_decide_eq_true z26_3
        obtain ⟨ad776, e776, hx776_0, hx776_1, hx776_2⟩ := at_T127 HR0.out x5_1 p776 q776
        obtain rfl : ad774 = ad776 := (by injection e776)
        replace hx776_0 := (HB.out.cell (World.block_lt_of_cell? w _ hx776_0)).trans hx776_0
        replace hx776_1 := (HB.out.cell (World.block_lt_of_cell? w _ hx776_1)).trans hx776_1
        replace hx776_2 := (HB.out.cell (World.block_lt_of_cell? w _ hx776_2)).trans hx776_2
        replace p776 := eq_true p776
        replace q776 := eq_true q776
        have p777 : 0 ≤ (x5_1 : Int) := of_decide_eq_true z26_3
        have q777 : x5_1 < (l0.length : Int) := of_decide_eq_true z26_3
        obtain ⟨ad777, e777, hx777_0, hx777_1, hx777_2⟩ := at_T127 HR0.out x5_1 p777 q777
        obtain rfl : ad774 = ad777 := (by injection e777)
        replace hx777_0 := (HB.out.cell (World.block_lt_of_cell? w _ hx777_0)).trans hx777_0
        replace hx777_1 := (HB.out.cell (World.block_lt_of_cell? w _ hx777_1)).trans hx777_1
        replace hx777_2 := (HB.out.cell (World.block_lt_of_cell? w _ hx777_2)).trans hx777_2
        replace p777 := eq_true p777
        replace q777 := eq_true q777
        try go_wp2
        go_ret
        exact ⟨z26_5, z26_1⟩
      ·
       rw [if_neg c7] at H
       have c7b0 : (((rd_T127 l0 x5_1).f1) == (wrap64 (x1_1 + 1))) = false := beq_eq_false_iff_ne.mpr c7
       have c7b1 : (((rd_T127 l0 x5_1).f1) != (wrap64 (x1_1 + 1))) = true := bne_iff_ne.mpr c7
       obtain rfl := Option.some.inj H
       try go_wp2
       have n0_ := Aside0.mk (below_drew1 HB.out)
       clear HB
       have HB := n0_
       clear n0_
       have p774 : 0 ≤ (x5_1 : Int) := of_decide_eq_true z26_3
       have q774 : x5_1 < (l0.length : Int) := of_decide_eq_true z26_3
       obtain ⟨ad774, e774, hx774_0, hx774_1, hx774_2⟩ := at_T127 HR0.out x5_1 p774 q774
       have hw774_2 := hx774_2
       have hw774_1 := hx774_1
       have hw774_0 := hx774_0
       cases e774
       replace hx774_0 := (HB.out.cell (World.block_lt_of_cell? w _ hx774_0)).trans hx774_0
       replace hx774_1 := (HB.out.cell (World.block_lt_of_cell? w _ hx774_1)).trans hx774_1
       replace hx774_2 := (HB.out.cell (World.block_lt_of_cell? w _ hx774_2)).trans hx774_2
       replace p774 := eq_true p774
       replace q774 := eq_true q774
       refine start_ (n := 8) (S := fun w' => w'.cell? (ad774.add ((x5_1).toNat * 3)) = some (.string ((rd_T127 l0 x5_1).f0)) ∧ w'.cell? ⟨(ad774.add ((x5_1).toNat * 3)).block, (ad774.add ((x5_1).toNat * 3)).off + 1, none⟩ = some (.int .i64 ((rd_T127 l0 x5_1).f1)) ∧ w'.cell? ⟨(ad774.add ((x5_1).toNat * 3)).block, (ad774.add ((x5_1).toNat * 3)).off + 2, none⟩ = some (.int .i64 ((rd_T127 l0 x5_1).f2))) (ds := []) #[false, false, false, false, false, false, false, false] z26_4 rfl rfl ⟨((HB.out.cell (World.block_lt_of_cell? w _ hw774_0)).trans hw774_0), ((HB.out.cell (World.block_lt_of_cell? w _ hw774_1)).trans hw774_1), ((HB.out.cell (World.block_lt_of_cell? w _ hw774_2)).trans hw774_2)⟩ (fun hHeld => ?_); refine with_tabW laws_heldTallyS.tab4 laws_heldTallyS.bits4 (fun HT_ HW_ => ?_)
       generalize wr.drew = w13 at HB hx774_0 hx774_1 hx774_2 hHeld ⊢
       refine pure_ (i := 0) (N := some 12) (v := ?_) (a' := ?_) #[true, false, false, false, false, false, false, false] rfl rfl (any_of HT_.out z26_4) (fun _ _ _ h => h) (Or.inl ⟨by rfl, ?_⟩) ?_ ?_
       rotate_left
       ·
        exact z26_2
       rotate_left
       ·
        exact z26_0
       refine pure_ (i := 1) (N := some 13) (v := ?_) (a' := ?_) #[true, true, false, false, false, false, false, false] rfl rfl (any_of HT_.out z26_4) (fun _ _ _ h => h) (Or.inl ⟨by rfl, ?_⟩) ?_ ?_
       rotate_left
       ·
        exact z26_2
       rotate_left
       ·
        exact z26_0
       refine pure_ (i := 2) (N := some 14) (v := ?_) (a' := ?_) #[true, true, true, false, false, false, false, false] rfl rfl (any_of HT_.out z26_4) (fun _ _ _ h => h) (Or.inl ⟨by rfl, ?_⟩) ?_ ?_
       rotate_left
       ·
        exact z26_2
       rotate_left
       ·
        exact z26_0
       refine pure_ (i := 3) (N := some 15) (v := ?_) (a' := ?_) #[true, true, true, true, false, false, false, false] rfl rfl (any_of HT_.out z26_4) (fun _ _ _ h => h) (Or.inl ⟨by rfl, ?_⟩) ?_ ?_
       rotate_left
       ·
        exact z26_2
       rotate_left
       ·
        exact z26_0
       refine pure_ (i := 5) (N := some 17) (v := ?_) (a' := ?_) #[true, true, true, true, false, true, false, false] rfl rfl (any_of HT_.out z26_4) (fun _ _ _ h => h) (Or.inl ⟨by rfl, ?_⟩) ?_ ?_
       rotate_left
       ·
        exact z26_2
       rotate_left
       ·
        exact z26_0
       refine take_ (i := 4) (N := some 16) (v := ?_) (a' := ?_) #[true, true, true, true, true, true, false, false] rfl rfl (take_ofW HT_.out HW_.out z26_4) (fun _ _ _ h => h) (Or.inl ⟨by rfl, ?_⟩) hHeld ?_ ?_
       rotate_left
       ·
        rintro w' ⟨s0, s1, s2⟩
        go_simp
        with_reducible rfl
       rotate_left
       ·
        exact z26_0
       refine one_ (i := 6) (N := some 18) #[true, true, true, true, true, true, true, false] rfl rfl (one_of HT_.out z26_4) (by decide) (fun K hK => ?_)
       refine goes_ Try.func119 z26_4 rfl #[.int .i64 x1_1] (by rfl) rfl rfl z26_6 ?_
       with_reducible refine (laws_markText.calls k1 x1_1 t775 _ A5.out).mono ?_
       rintro e w14 ⟨rfl, hb⟩
       refine ⟨_, rfl, ?_⟩
       have n0_ := Aside0.mk (below_step z26_1 hb)
       clear HB
       have HB := n0_
       clear n0_
       (try clear hb)
       (try clear hb2)
       (try clear hk)
       (try clear hi)
       refine hK.out _ _ ⟨((HB.out.cell (World.block_lt_of_cell? w _ hw774_0)).trans hw774_0), ((HB.out.cell (World.block_lt_of_cell? w _ hw774_1)).trans hw774_1), ((HB.out.cell (World.block_lt_of_cell? w _ hw774_2)).trans hw774_2)⟩ (fun hHeld => ?_)
       clear hK K
       refine norm_ (a' := ?_) ?_ ?_
       rotate_left
       ·
        show Act.put _ (some 18) _ = _
        simp only [Act.put, List.setIfInBounds_toArray, List.set_cons_zero, List.set_cons_succ, i64_w, i32_w]
        rfl
       refine pure_ (i := 7) (N := some 19) (v := ?_) (a' := ?_) #[true, true, true, true, true, true, true, true] rfl rfl (any_of HT_.out z26_4) (fun _ _ _ h => h) (Or.inl ⟨by rfl, ?_⟩) ?_ ?_
       rotate_left
       ·
        exact z26_2
       rotate_left
       ·
        exact z26_0
       refine done_ (done_of HT_.out z26_4) ?_
       have p776 : 0 ≤ (x5_1 : Int) := of_decide_eq_true z26_3
       have q776 : x5_1 < (l0.length : Int) := of_decide_eq_true z26_3
       obtain ⟨ad776, e776, hx776_0, hx776_1, hx776_2⟩ := at_T127 HR0.out x5_1 p776 q776
       obtain rfl : ad774 = ad776 := (by injection e776)
       replace hx776_0 := (HB.out.cell (World.block_lt_of_cell? w _ hx776_0)).trans hx776_0
       replace hx776_1 := (HB.out.cell (World.block_lt_of_cell? w _ hx776_1)).trans hx776_1
       replace hx776_2 := (HB.out.cell (World.block_lt_of_cell? w _ hx776_2)).trans hx776_2
       replace p776 := eq_true p776
       replace q776 := eq_true q776
       try go_wp2
       go_ret
       exact ⟨z26_5, z26_1⟩
     ·
      rw [if_neg c6] at H
      have c6b0 : (((rd_T127 l0 x5_1).f0).toList == t775.toList) = false := beq_eq_false_iff_ne.mpr c6
      have c6b1 : (((rd_T127 l0 x5_1).f0).toList != t775.toList) = true := bne_iff_ne.mpr c6
      obtain rfl := Option.some.inj H
      try go_wp2
      have n0_ := Aside0.mk (below_drew1 HB.out)
      clear HB
      have HB := n0_
      clear n0_
      have p774 : 0 ≤ (x5_1 : Int) := of_decide_eq_true z26_3
      have q774 : x5_1 < (l0.length : Int) := of_decide_eq_true z26_3
      obtain ⟨ad774, e774, hx774_0, hx774_1, hx774_2⟩ := at_T127 HR0.out x5_1 p774 q774
      have hw774_2 := hx774_2
      have hw774_1 := hx774_1
      have hw774_0 := hx774_0
      cases e774
      replace hx774_0 := (HB.out.cell (World.block_lt_of_cell? w _ hx774_0)).trans hx774_0
      replace hx774_1 := (HB.out.cell (World.block_lt_of_cell? w _ hx774_1)).trans hx774_1
      replace hx774_2 := (HB.out.cell (World.block_lt_of_cell? w _ hx774_2)).trans hx774_2
      replace p774 := eq_true p774
      replace q774 := eq_true q774
      refine start_ (n := 8) (S := fun w' => w'.cell? (ad774.add ((x5_1).toNat * 3)) = some (.string ((rd_T127 l0 x5_1).f0)) ∧ w'.cell? ⟨(ad774.add ((x5_1).toNat * 3)).block, (ad774.add ((x5_1).toNat * 3)).off + 1, none⟩ = some (.int .i64 ((rd_T127 l0 x5_1).f1)) ∧ w'.cell? ⟨(ad774.add ((x5_1).toNat * 3)).block, (ad774.add ((x5_1).toNat * 3)).off + 2, none⟩ = some (.int .i64 ((rd_T127 l0 x5_1).f2))) (ds := []) #[false, false, false, false, false, false, false, false] z26_4 rfl rfl ⟨((HB.out.cell (World.block_lt_of_cell? w _ hw774_0)).trans hw774_0), ((HB.out.cell (World.block_lt_of_cell? w _ hw774_1)).trans hw774_1), ((HB.out.cell (World.block_lt_of_cell? w _ hw774_2)).trans hw774_2)⟩ (fun hHeld => ?_); refine with_tabW laws_heldTallyS.tab4 laws_heldTallyS.bits4 (fun HT_ HW_ => ?_)
      generalize wr.drew = w15 at HB hx774_0 hx774_1 hx774_2 hHeld ⊢
      refine pure_ (i := 0) (N := some 12) (v := ?_) (a' := ?_) #[true, false, false, false, false, false, false, false] rfl rfl (any_of HT_.out z26_4) (fun _ _ _ h => h) (Or.inl ⟨by rfl, ?_⟩) ?_ ?_
      rotate_left
      ·
       exact z26_2
      rotate_left
      ·
       exact z26_0
      refine pure_ (i := 1) (N := some 13) (v := ?_) (a' := ?_) #[true, true, false, false, false, false, false, false] rfl rfl (any_of HT_.out z26_4) (fun _ _ _ h => h) (Or.inl ⟨by rfl, ?_⟩) ?_ ?_
      rotate_left
      ·
       exact z26_2
      rotate_left
      ·
       exact z26_0
      refine pure_ (i := 2) (N := some 14) (v := ?_) (a' := ?_) #[true, true, true, false, false, false, false, false] rfl rfl (any_of HT_.out z26_4) (fun _ _ _ h => h) (Or.inl ⟨by rfl, ?_⟩) ?_ ?_
      rotate_left
      ·
       exact z26_2
      rotate_left
      ·
       exact z26_0
      refine pure_ (i := 3) (N := some 15) (v := ?_) (a' := ?_) #[true, true, true, true, false, false, false, false] rfl rfl (any_of HT_.out z26_4) (fun _ _ _ h => h) (Or.inl ⟨by rfl, ?_⟩) ?_ ?_
      rotate_left
      ·
       exact z26_2
      rotate_left
      ·
       exact z26_0
      refine pure_ (i := 5) (N := some 17) (v := ?_) (a' := ?_) #[true, true, true, true, false, true, false, false] rfl rfl (any_of HT_.out z26_4) (fun _ _ _ h => h) (Or.inl ⟨by rfl, ?_⟩) ?_ ?_
      rotate_left
      ·
       exact z26_2
      rotate_left
      ·
       exact z26_0
      refine take_ (i := 4) (N := some 16) (v := ?_) (a' := ?_) #[true, true, true, true, true, true, false, false] rfl rfl (take_ofW HT_.out HW_.out z26_4) (fun _ _ _ h => h) (Or.inl ⟨by rfl, ?_⟩) hHeld ?_ ?_
      rotate_left
      ·
       rintro w' ⟨s0, s1, s2⟩
       go_simp
       with_reducible rfl
      rotate_left
      ·
       exact z26_0
      refine one_ (i := 6) (N := some 18) #[true, true, true, true, true, true, true, false] rfl rfl (one_of HT_.out z26_4) (by decide) (fun K hK => ?_)
      refine goes_ Try.func119 z26_4 rfl #[.int .i64 x1_1] (by rfl) rfl rfl z26_6 ?_
      with_reducible refine (laws_markText.calls k1 x1_1 t775 _ A5.out).mono ?_
      rintro e w16 ⟨rfl, hb⟩
      refine ⟨_, rfl, ?_⟩
      have n0_ := Aside0.mk (below_step z26_1 hb)
      clear HB
      have HB := n0_
      clear n0_
      (try clear hb)
      (try clear hb2)
      (try clear hk)
      (try clear hi)
      refine hK.out _ _ ⟨((HB.out.cell (World.block_lt_of_cell? w _ hw774_0)).trans hw774_0), ((HB.out.cell (World.block_lt_of_cell? w _ hw774_1)).trans hw774_1), ((HB.out.cell (World.block_lt_of_cell? w _ hw774_2)).trans hw774_2)⟩ (fun hHeld => ?_)
      clear hK K
      refine norm_ (a' := ?_) ?_ ?_
      rotate_left
      ·
       show Act.put _ (some 18) _ = _
       simp only [Act.put, List.setIfInBounds_toArray, List.set_cons_zero, List.set_cons_succ, i64_w, i32_w]
       rfl
      refine pure_ (i := 7) (N := some 19) (v := ?_) (a' := ?_) #[true, true, true, true, true, true, true, true] rfl rfl (any_of HT_.out z26_4) (fun _ _ _ h => h) (Or.inl ⟨by rfl, ?_⟩) ?_ ?_
      rotate_left
      ·
       exact z26_2
      rotate_left
      ·
       exact z26_0
      refine done_ (done_of HT_.out z26_4) ?_
      try go_wp2
      go_ret
      exact ⟨z26_5, z26_1⟩
    ·
     rw [if_neg c4] at H
     exact absurd H (by simp)
   ·
    rw [if_neg c3] at H
    have c3b0 : decide (x5_1 < (l0.length : Int)) = false := decide_eq_false c3
    clear c3
    obtain rfl := Option.some.inj H
    go_wp2
    go_ret
    exact ⟨z26_5, z26_1⟩
end Go.Proofs.Ytmohbiagcbfkpaa.QAct
