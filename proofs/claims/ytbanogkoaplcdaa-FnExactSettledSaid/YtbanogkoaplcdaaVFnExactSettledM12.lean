/- Parts of the proof of FnExactSettled, one behind the other. No condition. -/
import Derived.Test.YtbanogkoaplcdaaVFnExactSettledM11
namespace Go.Proofs.Ytbanogkoaplcdaa.QSe
open Go.RowKit Go.Proofs.Ytbanogkoaplcdaa.Short Go.Proofs.YtbanogkoaplcdaaW.PrintWords Go.Proofs.YtbanogkoaplcdaaW.PrintLast Go.Proofs.YtbanogkoaplcdaaW.PrintMore
attribute [local go_sem] max2_int min2_int max_two min_two max_three min_three max_four min_four   -- for this text's walks alone
set_option linter.unusedVariables false
set_option linter.unusedSimpArgs false
theorem z37_5 {P : Prop} (h : P := by first | rfl | (simp [errW_none, errW_some] <;> rfl) | (simp [*, errW_none, errW_some] <;> rfl)) : P := h
theorem z37_4 {P : Prop} (h : P := by kernel_rfl) : P := h
theorem z37_3 {P : Prop} (h : P := by first | (with_reducible assumption) | assumption) : P := h
theorem z37_2 {P : Prop} (h : P := by intro w'; go_simp; with_reducible rfl) : P := h
theorem z37_1 {P : Prop} (h : P := by repeat (first | (with_reducible first | exact HB.out | apply below_alloc | apply pw_below_drewN | apply below_drew1) | exact HB.out)) : P := h
theorem z37_0 {P : Prop} (h : P := by simp only [Act.put, List.setIfInBounds_toArray, List.set_cons_zero, List.set_cons_succ, i64_w, i32_w]; rfl) : P := h
abbrev mk37_0 : Array Bool := mb 10 0
abbrev mk37_1 : Array Bool := mb 10 1
abbrev mk37_2 : Array Bool := mb 10 3
abbrev mk37_3 : Array Bool := mb 10 7
abbrev mk37_4 : Array Bool := mb 10 23
abbrev mk37_5 : Array Bool := mb 10 55
abbrev mk37_6 : Array Bool := mb 10 119
abbrev mk37_7 : Array Bool := mb 10 127
abbrev mk37_8 : Array Bool := mb 10 255
abbrev mk37_9 : Array Bool := mb 10 511
abbrev mk37_10 : Array Bool := mb 10 1023
theorem z37_6 {P : Prop} (h : P := by repeat (first | exact (Kd.C_below HR863_3.out HB.out) | (with_reducible refine Kd.C_alloc ?_ _) | (with_reducible refine Kd.C_drewN ?_ _) | (with_reducible refine Kd.C_drew ?_))) : P := h
theorem z37_7 {P : Prop} (h : P := by repeat (first | exact (Kd.C_below HR864_3.out HB.out) | (with_reducible refine Kd.C_alloc ?_ _) | (with_reducible refine Kd.C_drewN ?_ _) | (with_reducible refine Kd.C_drew ?_))) : P := h
def laws_eqActS.l0 : Nat → List (S51) → List (S51) → Int → Option (Bool)
  | 0, _, _, _ => none
  | k + 1, x0, x1, x5 => if x5 < (x0.length : Int) then (if 0 ≤ x5 then (if x5 < (x1.length : Int) then ((laws_eqAct.f k ((rd_T51 x0 x5).f0.f0) ((rd_T51 x0 x5).f0.f1) ((rd_T51 x0 x5).f1) ((rd_T51 x0 x5).f2) ((rd_T51 x0 x5).f3) ((rd_T51 x0 x5).f4) ((rd_T51 x0 x5).f5) ((rd_T51 x0 x5).f6) ((rd_T51 x0 x5).f7.f0) ((rd_T51 x0 x5).f7.f1) ((rd_T51 x1 x5).f0.f0) ((rd_T51 x1 x5).f0.f1) ((rd_T51 x1 x5).f1) ((rd_T51 x1 x5).f2) ((rd_T51 x1 x5).f3) ((rd_T51 x1 x5).f4) ((rd_T51 x1 x5).f5) ((rd_T51 x1 x5).f6) ((rd_T51 x1 x5).f7.f0) ((rd_T51 x1 x5).f7.f1)).bind fun t865 => (if t865 = true then (laws_eqActS.l0 k x0 x1 (wrap64 (x5 + 1))) else (some false))) else (none)) else (none)) else (some true)
def laws_eqActS.f (k : Nat) (l0 : List (S51)) (l1 : List (S51)) : Option (Bool) := if (l0.length : Int) = (l1.length : Int) then (laws_eqActS.l0 k l0 l1 0) else (some false)
def laws_eqActS.T6 : Bool × List (List Nat × List Nat) := (true, [([], []), ([], []), ([0, 1], [0, 1]), ([2], [2]), ([], []), ([], []), ([4, 5], [4, 5]), ([6], [6]), ([3, 7], [3, 7]), ([8], [8])])
def laws_eqActS.B6 : List Nat := [0, 0, 3, 7, 0, 0, 48, 112, 255, 511]
theorem laws_eqActS.tab6 : rtab .any (opsOf Try.f31 6) = laws_eqActS.T6 := by kernel_rfl
theorem laws_eqActS.bits6 : waitsOk laws_eqActS.T6.2 laws_eqActS.B6 = true := by kernel_rfl
set_option maxHeartbeats 8000000 in
set_option maxRecDepth 100000 in
theorem laws_eqActS.calls (k : Nat) (A0 : Option Addr) (c0 : Nat) (l0 : List (S51)) (A1 : Option Addr) (c1 : Nat) (l1 : List (S51)) (r : Bool) (w : World) (hr0 : Kd.C k51 w A0 l0.length l0) (hc0 : l0.length ≤ c0) (hr1 : Kd.C k51 w A1 l1.length l1) (hc1 : l1.length ≤ c1) (h : laws_eqActS.f k l0 l1 = some r) :
  Calls Try.prog 31 #[.slice A0 l0.length c0, .slice A1 l1.length c1] w fun e w' => e = .returned (.bool r) ∧ Below w.heap.size w w' := by
 have hu51 := Try.underlying51
 have HR0 := Aside0.mk hr0
 have HC0 := Aside0.mk hc0
 clear hr0 hc0
 have HR1 := Aside0.mk hr1
 have HC1 := Aside0.mk hc1
 clear hr1 hc1
 have HB := Aside0.mk (Below.refl w.heap.size w)
 have H := h
 unfold laws_eqActS.f at H
 clear h
 by_cases c3 : (l0.length : Int) = (l1.length : Int)
 rotate_left
 ·
  rw [if_neg c3] at H
  have c3b0 : ((l0.length : Int) == (l1.length : Int)) = false := beq_eq_false_iff_ne.mpr c3
  have c3b1 : ((l0.length : Int) != (l1.length : Int)) = true := bne_iff_ne.mpr c3
  have c3b2 : (l0.length == l1.length) = false := by first | simpa using c3 | (simp at c3 ⊢; omega)
  obtain rfl := Option.some.inj H
  go_enter Try.func31, Try.ntmps31
  go_wp2
  go_ret
  exact ⟨z37_5, z37_1⟩
 rw [if_pos c3] at H
 have c3b0 : ((l0.length : Int) == (l1.length : Int)) = true := beq_iff_eq.mpr c3
 have c3b1 : ((l0.length : Int) != (l1.length : Int)) = false := bne_eq_false_iff_eq.mpr c3
 have c3b2 : (l0.length == l1.length) = true := by first | simpa using c3 | (simp at c3 ⊢; omega)
 clear c3
 have H' := Aside0.mk H
 clear H
 go_enter Try.func31, Try.ntmps31
 go_wp2
 go_loopg [5] k (fun kq v5 w' => ∃ (x5_1 : Int), v5 = .int .i64 x5_1 ∧ Aside0 (laws_eqActS.l0 kq l0 l1 x5_1 = some r) ∧ Aside0 (kq ≤ k) ∧ Aside0 (Below w.heap.size w w'))
 case atStart => exact ⟨(0), (by first | rfl | (simp; done) | (simp [*]; done)), H', ⟨Nat.le_refl _⟩, ⟨z37_1⟩⟩
 case round =>
  clear H'
  try clear c1
  try clear p2
  try clear c3
  try clear c3b0
  try clear c3b1
  try clear c3b2
  obtain ⟨x5_1, rfl, HA, HK1, HB⟩ := hrel
  cases gk with
  | zero => exact absurd HA.out (by simp [laws_eqActS.l0])
  | succ k1 =>
   have H := HA.out
   clear HA
   simp only [laws_eqActS.l0] at H
   by_cases c4 : x5_1 < (l0.length : Int)
   rotate_left
   ·
    rw [if_neg c4] at H
    have c4b0 : decide (x5_1 < (l0.length : Int)) = false := decide_eq_false c4
    clear c4
    obtain rfl := Option.some.inj H
    go_wp2
    go_ret
    exact ⟨z37_5, z37_1⟩
   rw [if_pos c4] at H
   have c4b0 : decide (x5_1 < (l0.length : Int)) = true := decide_eq_true c4
   clear c4
   by_cases c5 : 0 ≤ x5_1
   rotate_left
   ·
    rw [if_neg c5] at H
    exact absurd H (by simp)
   rw [if_pos c5] at H
   have c5b0 : decide (0 ≤ x5_1) = true := decide_eq_true c5
   clear c5
   by_cases c6 : x5_1 < (l1.length : Int)
   rotate_left
   ·
    rw [if_neg c6] at H
    exact absurd H (by simp)
   rw [if_pos c6] at H
   have c6b0 : decide (x5_1 < (l1.length : Int)) = true := decide_eq_true c6
   clear c6
   replace H := Option.bind_eq_some_iff.mp H
   obtain ⟨t865, A70, H⟩ := H
   (try dsimp only at H)
   have A7 := Aside0.mk A70
   clear A70
   by_cases c8 : t865 = true
   rotate_left
   ·
    replace c8 := Bool.eq_false_iff.mpr c8
    subst c8
    rw [if_neg (show ¬ (false = true) by decide)] at H
    obtain rfl := Option.some.inj H
    try go_wp2
    replace HB := Aside0.mk (below_drew1 HB.out)
    have p863 : 0 ≤ (x5_1 : Int) := of_decide_eq_true z37_3
    have q863 : x5_1 < (l0.length : Int) := of_decide_eq_true z37_3
    obtain ⟨ad863, A863_3, c863_3, e863, hx863_0, hx863_1, hx863_2, hx863_3, hx863_4, hx863_5, hx863_6, hx863_7, hx863_8, hx863_9, hl863_3, hi863_3⟩ := at_T51 HR0.out x5_1 p863 q863
    have hw863_9 := hx863_9
    have hw863_8 := hx863_8
    have hw863_7 := hx863_7
    have hw863_6 := hx863_6
    have hw863_5 := hx863_5
    have hw863_4 := hx863_4
    have hw863_3 := hx863_3
    have hw863_2 := hx863_2
    have hw863_1 := hx863_1
    have hw863_0 := hx863_0
    cases e863
    replace hx863_0 := cb_ HB hx863_0
    replace hx863_1 := cb_ HB hx863_1
    replace hx863_2 := cb_ HB hx863_2
    replace hx863_3 := cb_ HB hx863_3
    replace hx863_4 := cb_ HB hx863_4
    replace hx863_5 := cb_ HB hx863_5
    replace hx863_6 := cb_ HB hx863_6
    replace hx863_7 := cb_ HB hx863_7
    replace hx863_8 := cb_ HB hx863_8
    replace hx863_9 := cb_ HB hx863_9
    have HR863_3 := Aside0.mk hi863_3
    have HC863_3 := Aside0.mk hl863_3
    clear hi863_3 hl863_3
    replace p863 := eq_true p863
    replace q863 := eq_true q863
    have p864 : 0 ≤ (x5_1 : Int) := of_decide_eq_true z37_3
    have q864 : x5_1 < (l1.length : Int) := of_decide_eq_true z37_3
    obtain ⟨ad864, A864_3, c864_3, e864, hx864_0, hx864_1, hx864_2, hx864_3, hx864_4, hx864_5, hx864_6, hx864_7, hx864_8, hx864_9, hl864_3, hi864_3⟩ := at_T51 HR1.out x5_1 p864 q864
    have hw864_9 := hx864_9
    have hw864_8 := hx864_8
    have hw864_7 := hx864_7
    have hw864_6 := hx864_6
    have hw864_5 := hx864_5
    have hw864_4 := hx864_4
    have hw864_3 := hx864_3
    have hw864_2 := hx864_2
    have hw864_1 := hx864_1
    have hw864_0 := hx864_0
    cases e864
    replace hx864_0 := cb_ HB hx864_0
    replace hx864_1 := cb_ HB hx864_1
    replace hx864_2 := cb_ HB hx864_2
    replace hx864_3 := cb_ HB hx864_3
    replace hx864_4 := cb_ HB hx864_4
    replace hx864_5 := cb_ HB hx864_5
    replace hx864_6 := cb_ HB hx864_6
    replace hx864_7 := cb_ HB hx864_7
    replace hx864_8 := cb_ HB hx864_8
    replace hx864_9 := cb_ HB hx864_9
    have HR864_3 := Aside0.mk hi864_3
    have HC864_3 := Aside0.mk hl864_3
    clear hi864_3 hl864_3
    replace p864 := eq_true p864
    replace q864 := eq_true q864
    refine start_ (n := 10) (S := fun w' => w'.cell? (ad863.add ((x5_1).toNat * 10)) = some (.int .i64 ((rd_T51 l0 x5_1).f0.f0)) ∧ w'.cell? ⟨(ad863.add ((x5_1).toNat * 10)).block, (ad863.add ((x5_1).toNat * 10)).off + 1, none⟩ = some (.int .i64 ((rd_T51 l0 x5_1).f0.f1)) ∧ w'.cell? ⟨(ad863.add ((x5_1).toNat * 10)).block, (ad863.add ((x5_1).toNat * 10)).off + 2, none⟩ = some (.int .i64 ((rd_T51 l0 x5_1).f1)) ∧ w'.cell? ⟨(ad863.add ((x5_1).toNat * 10)).block, (ad863.add ((x5_1).toNat * 10)).off + 3, none⟩ = some (.slice A863_3 ((rd_T51 l0 x5_1).f2).length c863_3) ∧ w'.cell? ⟨(ad863.add ((x5_1).toNat * 10)).block, (ad863.add ((x5_1).toNat * 10)).off + 4, none⟩ = some (.int .i64 ((rd_T51 l0 x5_1).f3)) ∧ w'.cell? ⟨(ad863.add ((x5_1).toNat * 10)).block, (ad863.add ((x5_1).toNat * 10)).off + 5, none⟩ = some (.string ((rd_T51 l0 x5_1).f4)) ∧ w'.cell? ⟨(ad863.add ((x5_1).toNat * 10)).block, (ad863.add ((x5_1).toNat * 10)).off + 6, none⟩ = some (.string ((rd_T51 l0 x5_1).f5)) ∧ w'.cell? ⟨(ad863.add ((x5_1).toNat * 10)).block, (ad863.add ((x5_1).toNat * 10)).off + 7, none⟩ = some (.int .i64 ((rd_T51 l0 x5_1).f6)) ∧ w'.cell? ⟨(ad863.add ((x5_1).toNat * 10)).block, (ad863.add ((x5_1).toNat * 10)).off + 8, none⟩ = some (.int .i64 ((rd_T51 l0 x5_1).f7.f0)) ∧ w'.cell? ⟨(ad863.add ((x5_1).toNat * 10)).block, (ad863.add ((x5_1).toNat * 10)).off + 9, none⟩ = some (.int .i64 ((rd_T51 l0 x5_1).f7.f1)) ∧ w'.cell? (ad864.add ((x5_1).toNat * 10)) = some (.int .i64 ((rd_T51 l1 x5_1).f0.f0)) ∧ w'.cell? ⟨(ad864.add ((x5_1).toNat * 10)).block, (ad864.add ((x5_1).toNat * 10)).off + 1, none⟩ = some (.int .i64 ((rd_T51 l1 x5_1).f0.f1)) ∧ w'.cell? ⟨(ad864.add ((x5_1).toNat * 10)).block, (ad864.add ((x5_1).toNat * 10)).off + 2, none⟩ = some (.int .i64 ((rd_T51 l1 x5_1).f1)) ∧ w'.cell? ⟨(ad864.add ((x5_1).toNat * 10)).block, (ad864.add ((x5_1).toNat * 10)).off + 3, none⟩ = some (.slice A864_3 ((rd_T51 l1 x5_1).f2).length c864_3) ∧ w'.cell? ⟨(ad864.add ((x5_1).toNat * 10)).block, (ad864.add ((x5_1).toNat * 10)).off + 4, none⟩ = some (.int .i64 ((rd_T51 l1 x5_1).f3)) ∧ w'.cell? ⟨(ad864.add ((x5_1).toNat * 10)).block, (ad864.add ((x5_1).toNat * 10)).off + 5, none⟩ = some (.string ((rd_T51 l1 x5_1).f4)) ∧ w'.cell? ⟨(ad864.add ((x5_1).toNat * 10)).block, (ad864.add ((x5_1).toNat * 10)).off + 6, none⟩ = some (.string ((rd_T51 l1 x5_1).f5)) ∧ w'.cell? ⟨(ad864.add ((x5_1).toNat * 10)).block, (ad864.add ((x5_1).toNat * 10)).off + 7, none⟩ = some (.int .i64 ((rd_T51 l1 x5_1).f6)) ∧ w'.cell? ⟨(ad864.add ((x5_1).toNat * 10)).block, (ad864.add ((x5_1).toNat * 10)).off + 8, none⟩ = some (.int .i64 ((rd_T51 l1 x5_1).f7.f0)) ∧ w'.cell? ⟨(ad864.add ((x5_1).toNat * 10)).block, (ad864.add ((x5_1).toNat * 10)).off + 9, none⟩ = some (.int .i64 ((rd_T51 l1 x5_1).f7.f1))) (ds := []) mk37_0 z37_4 rfl rfl ⟨(cb_ HB hw863_0), (cb_ HB hw863_1), (cb_ HB hw863_2), (cb_ HB hw863_3), (cb_ HB hw863_4), (cb_ HB hw863_5), (cb_ HB hw863_6), (cb_ HB hw863_7), (cb_ HB hw863_8), (cb_ HB hw863_9), (cb_ HB hw864_0), (cb_ HB hw864_1), (cb_ HB hw864_2), (cb_ HB hw864_3), (cb_ HB hw864_4), (cb_ HB hw864_5), (cb_ HB hw864_6), (cb_ HB hw864_7), (cb_ HB hw864_8), (cb_ HB hw864_9)⟩ (fun hHeld => ?_); refine with_tabW laws_eqActS.tab6 laws_eqActS.bits6 (fun HT_ HW_ => ?_)
    generalize wr.drew = w11 at HB HR863_3 HR864_3 hx863_0 hx863_1 hx863_2 hx863_3 hx863_4 hx863_5 hx863_6 hx863_7 hx863_8 hx863_9 hx864_0 hx864_1 hx864_2 hx864_3 hx864_4 hx864_5 hx864_6 hx864_7 hx864_8 hx864_9 hHeld ⊢
    refine p_ (i := 0) (N := some 17) mk37_1 ?_ (hv := z37_2) (ha := z37_0)
    refine p_ (i := 1) (N := some 18) mk37_2 ?_ (hv := z37_2) (ha := z37_0)
    refine p_ (i := 2) (N := some 19) mk37_3 ?_ (hv := z37_2) (ha := z37_0)
    refine p_ (i := 4) (N := some 21) mk37_4 ?_ (hv := z37_2) (ha := z37_0)
    refine p_ (i := 5) (N := some 22) mk37_5 ?_ (hv := z37_2) (ha := z37_0)
    refine p_ (i := 6) (N := some 23) mk37_6 ?_ (hv := z37_2) (ha := z37_0)
    refine t_ (i := 3) (N := some 20) mk37_7 hHeld ?_ (ha := z37_0)
    refine t_ (i := 7) (N := some 24) mk37_8 hHeld ?_ (ha := z37_0)
    refine o_ (i := 8) (N := some 25) mk37_9 (fun K hK => ?_)
    refine goes_ Try.func23 z37_4 rfl #[.agg #[.int .i64 ((rd_T51 l0 x5_1).f0.f0), .int .i64 ((rd_T51 l0 x5_1).f0.f1), .int .i64 ((rd_T51 l0 x5_1).f1), .slice A863_3 ((rd_T51 l0 x5_1).f2).length c863_3, .int .i64 ((rd_T51 l0 x5_1).f3), .string ((rd_T51 l0 x5_1).f4), .string ((rd_T51 l0 x5_1).f5), .int .i64 ((rd_T51 l0 x5_1).f6), .int .i64 ((rd_T51 l0 x5_1).f7.f0), .int .i64 ((rd_T51 l0 x5_1).f7.f1)], .agg #[.int .i64 ((rd_T51 l1 x5_1).f0.f0), .int .i64 ((rd_T51 l1 x5_1).f0.f1), .int .i64 ((rd_T51 l1 x5_1).f1), .slice A864_3 ((rd_T51 l1 x5_1).f2).length c864_3, .int .i64 ((rd_T51 l1 x5_1).f3), .string ((rd_T51 l1 x5_1).f4), .string ((rd_T51 l1 x5_1).f5), .int .i64 ((rd_T51 l1 x5_1).f6), .int .i64 ((rd_T51 l1 x5_1).f7.f0), .int .i64 ((rd_T51 l1 x5_1).f7.f1)]] (by rfl) rfl rfl (by first | rfl | (simp only [List.map_toArray, List.map_cons, List.map_nil]; first | done | rfl)) ?_
    with_reducible refine (laws_eqAct.calls k1 ((rd_T51 l0 x5_1).f0.f0) ((rd_T51 l0 x5_1).f0.f1) ((rd_T51 l0 x5_1).f1) _ _ ((rd_T51 l0 x5_1).f2) ((rd_T51 l0 x5_1).f3) ((rd_T51 l0 x5_1).f4) ((rd_T51 l0 x5_1).f5) ((rd_T51 l0 x5_1).f6) ((rd_T51 l0 x5_1).f7.f0) ((rd_T51 l0 x5_1).f7.f1) ((rd_T51 l1 x5_1).f0.f0) ((rd_T51 l1 x5_1).f0.f1) ((rd_T51 l1 x5_1).f1) _ _ ((rd_T51 l1 x5_1).f2) ((rd_T51 l1 x5_1).f3) ((rd_T51 l1 x5_1).f4) ((rd_T51 l1 x5_1).f5) ((rd_T51 l1 x5_1).f6) ((rd_T51 l1 x5_1).f7.f0) ((rd_T51 l1 x5_1).f7.f1) false _ ?side1 ?side2 ?side3 ?side4 A7.out).mono ?_
    (case side1 => exact z37_6)
    (case side2 => exact HC863_3.out)
    (case side3 => exact z37_7)
    (case side4 => exact HC864_3.out)
    rintro e w12 ⟨rfl, hb⟩
    refine ⟨_, rfl, ?_⟩
    replace HB := Aside0.mk (below_step z37_1 hb)
    (try clear hb)
    (try clear hb2)
    (try clear hk)
    (try clear hi)
    refine hK.out _ _ ⟨(cb_ HB hw863_0), (cb_ HB hw863_1), (cb_ HB hw863_2), (cb_ HB hw863_3), (cb_ HB hw863_4), (cb_ HB hw863_5), (cb_ HB hw863_6), (cb_ HB hw863_7), (cb_ HB hw863_8), (cb_ HB hw863_9), (cb_ HB hw864_0), (cb_ HB hw864_1), (cb_ HB hw864_2), (cb_ HB hw864_3), (cb_ HB hw864_4), (cb_ HB hw864_5), (cb_ HB hw864_6), (cb_ HB hw864_7), (cb_ HB hw864_8), (cb_ HB hw864_9)⟩ (fun hHeld => ?_)
    clear hK K
    refine n_ (N := some 25) ?_
    refine p_ (i := 9) (N := some 26) mk37_10 ?_ (hv := z37_2) (ha := z37_0)
    refine done_ (done_of HT_.out z37_4) ?_
    try go_wp2
    go_ret
    exact ⟨z37_5, z37_1⟩
   subst c8
   rw [if_pos rfl] at H
   have H' := Aside0.mk H
   clear H
   try go_wp2
   replace HB := Aside0.mk (below_drew1 HB.out)
   have p863 : 0 ≤ (x5_1 : Int) := of_decide_eq_true z37_3
   have q863 : x5_1 < (l0.length : Int) := of_decide_eq_true z37_3
   obtain ⟨ad863, A863_3, c863_3, e863, hx863_0, hx863_1, hx863_2, hx863_3, hx863_4, hx863_5, hx863_6, hx863_7, hx863_8, hx863_9, hl863_3, hi863_3⟩ := at_T51 HR0.out x5_1 p863 q863
   have hw863_9 := hx863_9
   have hw863_8 := hx863_8
   have hw863_7 := hx863_7
   have hw863_6 := hx863_6
   have hw863_5 := hx863_5
   have hw863_4 := hx863_4
   have hw863_3 := hx863_3
   have hw863_2 := hx863_2
   have hw863_1 := hx863_1
   have hw863_0 := hx863_0
   cases e863
   replace hx863_0 := cb_ HB hx863_0
   replace hx863_1 := cb_ HB hx863_1
   replace hx863_2 := cb_ HB hx863_2
   replace hx863_3 := cb_ HB hx863_3
   replace hx863_4 := cb_ HB hx863_4
   replace hx863_5 := cb_ HB hx863_5
   replace hx863_6 := cb_ HB hx863_6
   replace hx863_7 := cb_ HB hx863_7
   replace hx863_8 := cb_ HB hx863_8
   replace hx863_9 := cb_ HB hx863_9
   have HR863_3 := Aside0.mk hi863_3
   have HC863_3 := Aside0.mk hl863_3
   clear hi863_3 hl863_3
   replace p863 := eq_true p863
   replace q863 := eq_true q863
   have p864 : 0 ≤ (x5_1 : Int) := of_decide_eq_true z37_3
   have q864 : x5_1 < (l1.length : Int) := of_decide_eq_true z37_3
   obtain ⟨ad864, A864_3, c864_3, e864, hx864_0, hx864_1, hx864_2, hx864_3, hx864_4, hx864_5, hx864_6, hx864_7, hx864_8, hx864_9, hl864_3, hi864_3⟩ := at_T51 HR1.out x5_1 p864 q864
   have hw864_9 := hx864_9
   have hw864_8 := hx864_8
   have hw864_7 := hx864_7
   have hw864_6 := hx864_6
   have hw864_5 := hx864_5
   have hw864_4 := hx864_4
   have hw864_3 := hx864_3
   have hw864_2 := hx864_2
   have hw864_1 := hx864_1
   have hw864_0 := hx864_0
   cases e864
   replace hx864_0 := cb_ HB hx864_0
   replace hx864_1 := cb_ HB hx864_1
   replace hx864_2 := cb_ HB hx864_2
   replace hx864_3 := cb_ HB hx864_3
   replace hx864_4 := cb_ HB hx864_4
   replace hx864_5 := cb_ HB hx864_5
   replace hx864_6 := cb_ HB hx864_6
   replace hx864_7 := cb_ HB hx864_7
   replace hx864_8 := cb_ HB hx864_8
   replace hx864_9 := cb_ HB hx864_9
   have HR864_3 := Aside0.mk hi864_3
   have HC864_3 := Aside0.mk hl864_3
   clear hi864_3 hl864_3
   replace p864 := eq_true p864
   replace q864 := eq_true q864
   refine start_ (n := 10) (S := fun w' => w'.cell? (ad863.add ((x5_1).toNat * 10)) = some (.int .i64 ((rd_T51 l0 x5_1).f0.f0)) ∧ w'.cell? ⟨(ad863.add ((x5_1).toNat * 10)).block, (ad863.add ((x5_1).toNat * 10)).off + 1, none⟩ = some (.int .i64 ((rd_T51 l0 x5_1).f0.f1)) ∧ w'.cell? ⟨(ad863.add ((x5_1).toNat * 10)).block, (ad863.add ((x5_1).toNat * 10)).off + 2, none⟩ = some (.int .i64 ((rd_T51 l0 x5_1).f1)) ∧ w'.cell? ⟨(ad863.add ((x5_1).toNat * 10)).block, (ad863.add ((x5_1).toNat * 10)).off + 3, none⟩ = some (.slice A863_3 ((rd_T51 l0 x5_1).f2).length c863_3) ∧ w'.cell? ⟨(ad863.add ((x5_1).toNat * 10)).block, (ad863.add ((x5_1).toNat * 10)).off + 4, none⟩ = some (.int .i64 ((rd_T51 l0 x5_1).f3)) ∧ w'.cell? ⟨(ad863.add ((x5_1).toNat * 10)).block, (ad863.add ((x5_1).toNat * 10)).off + 5, none⟩ = some (.string ((rd_T51 l0 x5_1).f4)) ∧ w'.cell? ⟨(ad863.add ((x5_1).toNat * 10)).block, (ad863.add ((x5_1).toNat * 10)).off + 6, none⟩ = some (.string ((rd_T51 l0 x5_1).f5)) ∧ w'.cell? ⟨(ad863.add ((x5_1).toNat * 10)).block, (ad863.add ((x5_1).toNat * 10)).off + 7, none⟩ = some (.int .i64 ((rd_T51 l0 x5_1).f6)) ∧ w'.cell? ⟨(ad863.add ((x5_1).toNat * 10)).block, (ad863.add ((x5_1).toNat * 10)).off + 8, none⟩ = some (.int .i64 ((rd_T51 l0 x5_1).f7.f0)) ∧ w'.cell? ⟨(ad863.add ((x5_1).toNat * 10)).block, (ad863.add ((x5_1).toNat * 10)).off + 9, none⟩ = some (.int .i64 ((rd_T51 l0 x5_1).f7.f1)) ∧ w'.cell? (ad864.add ((x5_1).toNat * 10)) = some (.int .i64 ((rd_T51 l1 x5_1).f0.f0)) ∧ w'.cell? ⟨(ad864.add ((x5_1).toNat * 10)).block, (ad864.add ((x5_1).toNat * 10)).off + 1, none⟩ = some (.int .i64 ((rd_T51 l1 x5_1).f0.f1)) ∧ w'.cell? ⟨(ad864.add ((x5_1).toNat * 10)).block, (ad864.add ((x5_1).toNat * 10)).off + 2, none⟩ = some (.int .i64 ((rd_T51 l1 x5_1).f1)) ∧ w'.cell? ⟨(ad864.add ((x5_1).toNat * 10)).block, (ad864.add ((x5_1).toNat * 10)).off + 3, none⟩ = some (.slice A864_3 ((rd_T51 l1 x5_1).f2).length c864_3) ∧ w'.cell? ⟨(ad864.add ((x5_1).toNat * 10)).block, (ad864.add ((x5_1).toNat * 10)).off + 4, none⟩ = some (.int .i64 ((rd_T51 l1 x5_1).f3)) ∧ w'.cell? ⟨(ad864.add ((x5_1).toNat * 10)).block, (ad864.add ((x5_1).toNat * 10)).off + 5, none⟩ = some (.string ((rd_T51 l1 x5_1).f4)) ∧ w'.cell? ⟨(ad864.add ((x5_1).toNat * 10)).block, (ad864.add ((x5_1).toNat * 10)).off + 6, none⟩ = some (.string ((rd_T51 l1 x5_1).f5)) ∧ w'.cell? ⟨(ad864.add ((x5_1).toNat * 10)).block, (ad864.add ((x5_1).toNat * 10)).off + 7, none⟩ = some (.int .i64 ((rd_T51 l1 x5_1).f6)) ∧ w'.cell? ⟨(ad864.add ((x5_1).toNat * 10)).block, (ad864.add ((x5_1).toNat * 10)).off + 8, none⟩ = some (.int .i64 ((rd_T51 l1 x5_1).f7.f0)) ∧ w'.cell? ⟨(ad864.add ((x5_1).toNat * 10)).block, (ad864.add ((x5_1).toNat * 10)).off + 9, none⟩ = some (.int .i64 ((rd_T51 l1 x5_1).f7.f1))) (ds := []) mk37_0 z37_4 rfl rfl ⟨(cb_ HB hw863_0), (cb_ HB hw863_1), (cb_ HB hw863_2), (cb_ HB hw863_3), (cb_ HB hw863_4), (cb_ HB hw863_5), (cb_ HB hw863_6), (cb_ HB hw863_7), (cb_ HB hw863_8), (cb_ HB hw863_9), (cb_ HB hw864_0), (cb_ HB hw864_1), (cb_ HB hw864_2), (cb_ HB hw864_3), (cb_ HB hw864_4), (cb_ HB hw864_5), (cb_ HB hw864_6), (cb_ HB hw864_7), (cb_ HB hw864_8), (cb_ HB hw864_9)⟩ (fun hHeld => ?_); refine with_tabW laws_eqActS.tab6 laws_eqActS.bits6 (fun HT_ HW_ => ?_)
   generalize wr.drew = w9 at HB HR863_3 HR864_3 hx863_0 hx863_1 hx863_2 hx863_3 hx863_4 hx863_5 hx863_6 hx863_7 hx863_8 hx863_9 hx864_0 hx864_1 hx864_2 hx864_3 hx864_4 hx864_5 hx864_6 hx864_7 hx864_8 hx864_9 hHeld ⊢
   refine p_ (i := 0) (N := some 17) mk37_1 ?_ (hv := z37_2) (ha := z37_0)
   refine p_ (i := 1) (N := some 18) mk37_2 ?_ (hv := z37_2) (ha := z37_0)
   refine p_ (i := 2) (N := some 19) mk37_3 ?_ (hv := z37_2) (ha := z37_0)
   refine p_ (i := 4) (N := some 21) mk37_4 ?_ (hv := z37_2) (ha := z37_0)
   refine p_ (i := 5) (N := some 22) mk37_5 ?_ (hv := z37_2) (ha := z37_0)
   refine p_ (i := 6) (N := some 23) mk37_6 ?_ (hv := z37_2) (ha := z37_0)
   refine t_ (i := 3) (N := some 20) mk37_7 hHeld ?_ (ha := z37_0)
   refine t_ (i := 7) (N := some 24) mk37_8 hHeld ?_ (ha := z37_0)
   refine o_ (i := 8) (N := some 25) mk37_9 (fun K hK => ?_)
   refine goes_ Try.func23 z37_4 rfl #[.agg #[.int .i64 ((rd_T51 l0 x5_1).f0.f0), .int .i64 ((rd_T51 l0 x5_1).f0.f1), .int .i64 ((rd_T51 l0 x5_1).f1), .slice A863_3 ((rd_T51 l0 x5_1).f2).length c863_3, .int .i64 ((rd_T51 l0 x5_1).f3), .string ((rd_T51 l0 x5_1).f4), .string ((rd_T51 l0 x5_1).f5), .int .i64 ((rd_T51 l0 x5_1).f6), .int .i64 ((rd_T51 l0 x5_1).f7.f0), .int .i64 ((rd_T51 l0 x5_1).f7.f1)], .agg #[.int .i64 ((rd_T51 l1 x5_1).f0.f0), .int .i64 ((rd_T51 l1 x5_1).f0.f1), .int .i64 ((rd_T51 l1 x5_1).f1), .slice A864_3 ((rd_T51 l1 x5_1).f2).length c864_3, .int .i64 ((rd_T51 l1 x5_1).f3), .string ((rd_T51 l1 x5_1).f4), .string ((rd_T51 l1 x5_1).f5), .int .i64 ((rd_T51 l1 x5_1).f6), .int .i64 ((rd_T51 l1 x5_1).f7.f0), .int .i64 ((rd_T51 l1 x5_1).f7.f1)]] (by rfl) rfl rfl (by first | rfl | (simp only [List.map_toArray, List.map_cons, List.map_nil]; first | done | rfl)) ?_
   with_reducible refine (laws_eqAct.calls k1 ((rd_T51 l0 x5_1).f0.f0) ((rd_T51 l0 x5_1).f0.f1) ((rd_T51 l0 x5_1).f1) _ _ ((rd_T51 l0 x5_1).f2) ((rd_T51 l0 x5_1).f3) ((rd_T51 l0 x5_1).f4) ((rd_T51 l0 x5_1).f5) ((rd_T51 l0 x5_1).f6) ((rd_T51 l0 x5_1).f7.f0) ((rd_T51 l0 x5_1).f7.f1) ((rd_T51 l1 x5_1).f0.f0) ((rd_T51 l1 x5_1).f0.f1) ((rd_T51 l1 x5_1).f1) _ _ ((rd_T51 l1 x5_1).f2) ((rd_T51 l1 x5_1).f3) ((rd_T51 l1 x5_1).f4) ((rd_T51 l1 x5_1).f5) ((rd_T51 l1 x5_1).f6) ((rd_T51 l1 x5_1).f7.f0) ((rd_T51 l1 x5_1).f7.f1) true _ ?side1 ?side2 ?side3 ?side4 A7.out).mono ?_
   (case side1 => exact z37_6)
   (case side2 => exact HC863_3.out)
   (case side3 => exact z37_7)
   (case side4 => exact HC864_3.out)
   rintro e w10 ⟨rfl, hb⟩
   refine ⟨_, rfl, ?_⟩
   replace HB := Aside0.mk (below_step z37_1 hb)
   (try clear hb)
   (try clear hb2)
   (try clear hk)
   (try clear hi)
   refine hK.out _ _ ⟨(cb_ HB hw863_0), (cb_ HB hw863_1), (cb_ HB hw863_2), (cb_ HB hw863_3), (cb_ HB hw863_4), (cb_ HB hw863_5), (cb_ HB hw863_6), (cb_ HB hw863_7), (cb_ HB hw863_8), (cb_ HB hw863_9), (cb_ HB hw864_0), (cb_ HB hw864_1), (cb_ HB hw864_2), (cb_ HB hw864_3), (cb_ HB hw864_4), (cb_ HB hw864_5), (cb_ HB hw864_6), (cb_ HB hw864_7), (cb_ HB hw864_8), (cb_ HB hw864_9)⟩ (fun hHeld => ?_)
   clear hK K
   refine n_ (N := some 25) ?_
   refine p_ (i := 9) (N := some 26) mk37_10 ?_ (hv := z37_2) (ha := z37_0)
   refine done_ (done_of HT_.out z37_4) ?_
   try go_wp2
   go_roundg k1
   case measure => have := HK1.out; omega
   case rel => exact ⟨(wrap64 (x5_1 + 1)), (by first | rfl | (simp; done) | (simp [*]; done)), H', ⟨by have := HK1.out; omega⟩, ⟨z37_1⟩⟩
end Go.Proofs.Ytbanogkoaplcdaa.QSe
