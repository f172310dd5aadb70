/- Parts of the proof of FnExactDoAll, one behind the other. No condition. -/
import Derived.Test.YtbanogkoaplcdaaGreatVFnExactDoAllM10
namespace Go.Proofs.YtbanogkoaplcdaaGreat.QDa
open Go.RowKit Go.Proofs.YtbanogkoaplcdaaGreat.Reg14 Go.Proofs.YtbanogkoaplcdaaGreat.Reg13 Go.Proofs.YtbanogkoaplcdaaGreat.Reg12 Go.Proofs.YtbanogkoaplcdaaGreat.Reg11 Go.Proofs.YtbanogkoaplcdaaGreat.Reg10 Go.Proofs.YtbanogkoaplcdaaGreat.Reg9 Go.Proofs.YtbanogkoaplcdaaGreat.Lock Go.Proofs.YtbanogkoaplcdaaGreat.Auto Go.Proofs.YtbanogkoaplcdaaGreat.Short Go.Proofs.YtbanogkoaplcdaaGreatW.PrintWords Go.Proofs.YtbanogkoaplcdaaGreatW.PrintLast Go.Proofs.YtbanogkoaplcdaaGreatW.PrintMore
attribute [local go_sem] max2_int min2_int max_two min_two max_three min_three max_four min_four   -- for this text's walks alone
set_option linter.unusedVariables false
set_option linter.unusedSimpArgs false
theorem z33_9 {P : Prop} (h : P := by first | rfl | (simp only [List.map_toArray, List.map_cons, List.map_nil]; first | done | rfl)) : P := h
theorem z33_8 {P : Prop} (h : P := by kernel_rfl) : P := h
theorem z33_7 {P : Prop} (h : P := by intro w'; go_simp; with_reducible rfl) : P := h
theorem z33_6 {P : Prop} (h : P := by first | rfl | (simp [errW_none, errW_some] <;> rfl) | (simp [*, errW_none, errW_some] <;> rfl)) : P := h
theorem z33_5 {P : Prop} (h : P := by first | rfl | (simp; done) | (simp [*]; done)) : P := h
theorem z33_4 {P : Prop} (h : P := by (with_reducible repeat (first | apply Kd.R_alloc | apply Kd.R_drewN | apply Kd.R_drew)); exact HO_0.out) : P := h
theorem z33_3 {P : Prop} (h : P := by repeat (first | (with_reducible first | exact HK.out | apply Kept.alloc | apply Kept.drewN | apply Kept.drew) | exact HK.out)) : P := h
theorem z33_2 {P : Prop} (h : P := by first | (with_reducible assumption) | assumption) : P := h
theorem z33_1 {P : Prop} (h : P := by simp only [Act.put, List.setIfInBounds_toArray, List.set_cons_zero, List.set_cons_succ, i64_w, i32_w]; rfl) : P := h
theorem z33_0 {P : Prop} (h : P := by repeat (first | (with_reducible first | exact HB.out | apply below_alloc | apply pw_below_drewN | apply below_drew1) | exact HB.out)) : P := h
abbrev mk33_0 : Array Bool := mb 10 0
abbrev mk33_1 : Array Bool := mb 10 1
abbrev mk33_2 : Array Bool := mb 10 3
abbrev mk33_3 : Array Bool := mb 10 7
abbrev mk33_4 : Array Bool := mb 10 23
abbrev mk33_5 : Array Bool := mb 10 55
abbrev mk33_6 : Array Bool := mb 10 119
abbrev mk33_7 : Array Bool := mb 10 127
abbrev mk33_8 : Array Bool := mb 10 255
abbrev mk33_9 : Array Bool := mb 10 511
abbrev mk33_10 : Array Bool := mb 10 1023
theorem z33_10 {P : Prop} (h : P := by repeat (first | exact (Kd.C_below HR878_3.out HB.out) | (with_reducible refine Kd.C_alloc ?_ _) | (with_reducible refine Kd.C_drewN ?_ _) | (with_reducible refine Kd.C_drew ?_))) : P := h
theorem z33_11 {P : Prop} (h : P := by repeat (first | exact (Kd.C_below HR879_3.out HB.out) | (with_reducible refine Kd.C_alloc ?_ _) | (with_reducible refine Kd.C_drewN ?_ _) | (with_reducible refine Kd.C_drew ?_))) : P := h
def laws_eqActS.l0 : Nat → List (S61) → List (S61) → Int → Option (Bool)
  | 0, _, _, _ => none
  | k + 1, x0, x1, x5 => if x5 < (x0.length : Int) then (if 0 ≤ x5 then (if x5 < (x1.length : Int) then ((laws_eqAct.f k ((rd_T61 x0 x5).f0.f0) ((rd_T61 x0 x5).f0.f1) ((rd_T61 x0 x5).f1) ((rd_T61 x0 x5).f2) ((rd_T61 x0 x5).f3) ((rd_T61 x0 x5).f4) ((rd_T61 x0 x5).f5) ((rd_T61 x0 x5).f6) ((rd_T61 x0 x5).f7.f0) ((rd_T61 x0 x5).f7.f1) ((rd_T61 x1 x5).f0.f0) ((rd_T61 x1 x5).f0.f1) ((rd_T61 x1 x5).f1) ((rd_T61 x1 x5).f2) ((rd_T61 x1 x5).f3) ((rd_T61 x1 x5).f4) ((rd_T61 x1 x5).f5) ((rd_T61 x1 x5).f6) ((rd_T61 x1 x5).f7.f0) ((rd_T61 x1 x5).f7.f1)).bind fun t880 => (if t880 = true then (laws_eqActS.l0 k x0 x1 (wrap64 (x5 + 1))) else (some false))) else (none)) else (none)) else (some true)
def laws_eqActS.f (k : Nat) (l0 : List (S61)) (l1 : List (S61)) : Option (Bool) := if (l0.length : Int) = (l1.length : Int) then (laws_eqActS.l0 k l0 l1 0) else (some false)
def laws_eqActS.T6 : Bool × List (List Nat × List Nat) := (true, [([], []), ([], []), ([0, 1], [0, 1]), ([2], [2]), ([], []), ([], []), ([4, 5], [4, 5]), ([6], [6]), ([3, 7], [3, 7]), ([8], [8])])
def laws_eqActS.B6 : List Nat := [0, 0, 3, 7, 0, 0, 48, 112, 255, 511]
theorem laws_eqActS.tab6 : rtab .any (opsOf Tryz.f12 6) = laws_eqActS.T6 := by kernel_rfl
theorem laws_eqActS.bits6 : waitsOk laws_eqActS.T6.2 laws_eqActS.B6 = true := by kernel_rfl
set_option maxHeartbeats 8000000 in
set_option maxRecDepth 100000 in
theorem laws_eqActS.calls (k : Nat) (A0 : Option Addr) (c0 : Nat) (l0 : List (S61)) (A1 : Option Addr) (c1 : Nat) (l1 : List (S61)) (r : Bool) (w : World) (hr0 : Kd.C k61 w A0 l0.length l0) (hc0 : l0.length ≤ c0) (hr1 : Kd.C k61 w A1 l1.length l1) (hc1 : l1.length ≤ c1) (h : laws_eqActS.f k l0 l1 = some r) :
  Calls Tryz.prog 12 #[.slice A0 l0.length c0, .slice A1 l1.length c1] w fun e w' => e = .returned (.bool r) ∧ Below w.heap.size w w' := by
 have hu61 := Tryz.underlying61
 have HR0 := Aside0.mk hr0
 have HC0 := Aside0.mk hc0
 clear hr0 hc0
 have HR1 := Aside0.mk hr1
 have HC1 := Aside0.mk hc1
 clear hr1 hc1
 have HB := Aside0.mk (Below.refl w.heap.size w)
 have H := h
 unfold laws_eqActS.f at H
 clear h
 by_cases c3 : (l0.length : Int) = (l1.length : Int)
 rotate_left
 ·
  rw [if_neg c3] at H
  have c3b0 : ((l0.length : Int) == (l1.length : Int)) = false := beq_eq_false_iff_ne.mpr c3
  have c3b1 : ((l0.length : Int) != (l1.length : Int)) = true := bne_iff_ne.mpr c3
  have c3b2 : (l0.length == l1.length) = false := by first | simpa using c3 | (simp at c3 ⊢; omega)
  obtain rfl := Option.some.inj H
  go_enter Tryz.func12, Tryz.ntmps12
  go_wp2
  go_ret
  exact ⟨z33_6, z33_0⟩
 rw [if_pos c3] at H
 have c3b0 : ((l0.length : Int) == (l1.length : Int)) = true := beq_iff_eq.mpr c3
 have c3b1 : ((l0.length : Int) != (l1.length : Int)) = false := bne_eq_false_iff_eq.mpr c3
 have c3b2 : (l0.length == l1.length) = true := by first | simpa using c3 | (simp at c3 ⊢; omega)
 clear c3
 have H' := Aside0.mk H
 clear H
 go_enter Tryz.func12, Tryz.ntmps12
 go_wp2
 go_loopg [5] k (fun kq v5 w' => ∃ (x5_1 : Int), v5 = .int .i64 x5_1 ∧ Aside0 (laws_eqActS.l0 kq l0 l1 x5_1 = some r) ∧ Aside0 (kq ≤ k) ∧ Aside0 (Below w.heap.size w w'))
 case atStart => exact ⟨(0), z33_5, H', ⟨Nat.le_refl _⟩, ⟨z33_0⟩⟩
 case round =>
  clear H'
  try clear c1
  try clear p2
  try clear c3
  try clear c3b0
  try clear c3b1
  try clear c3b2
  obtain ⟨x5_1, rfl, HA, HK1, HB⟩ := hrel
  cases gk with
  | zero => exact absurd HA.out (by simp [laws_eqActS.l0])
  | succ k1 =>
   have H := HA.out
   clear HA
   simp only [laws_eqActS.l0] at H
   by_cases c4 : x5_1 < (l0.length : Int)
   rotate_left
   ·
    rw [if_neg c4] at H
    have c4b0 : decide (x5_1 < (l0.length : Int)) = false := decide_eq_false c4
    clear c4
    obtain rfl := Option.some.inj H
    go_wp2
    go_ret
    exact ⟨z33_6, z33_0⟩
   rw [if_pos c4] at H
   have c4b0 : decide (x5_1 < (l0.length : Int)) = true := decide_eq_true c4
   clear c4
   by_cases c5 : 0 ≤ x5_1
   rotate_left
   ·
    rw [if_neg c5] at H
    exact absurd H (by simp)
   rw [if_pos c5] at H
   have c5b0 : decide (0 ≤ x5_1) = true := decide_eq_true c5
   clear c5
   by_cases c6 : x5_1 < (l1.length : Int)
   rotate_left
   ·
    rw [if_neg c6] at H
    exact absurd H (by simp)
   rw [if_pos c6] at H
   have c6b0 : decide (x5_1 < (l1.length : Int)) = true := decide_eq_true c6
   clear c6
   replace H := Option.bind_eq_some_iff.mp H
   obtain ⟨t880, A70, H⟩ := H
   (try dsimp only at H)
   have A7 := Aside0.mk A70
   clear A70
   by_cases c8 : t880 = true
   rotate_left
   ·
    replace c8 := Bool.eq_false_iff.mpr c8
    subst c8
    rw [if_neg (show ¬ (false = true) by decide)] at H
    obtain rfl := Option.some.inj H
    try go_wp2
    replace HB := Aside0.mk (below_drew1 HB.out)
    have p878 : 0 ≤ (x5_1 : Int) := of_decide_eq_true z33_2
    have q878 : x5_1 < (l0.length : Int) := of_decide_eq_true z33_2
    obtain ⟨ad878, A878_3, c878_3, e878, hx878_0, hx878_1, hx878_2, hx878_3, hx878_4, hx878_5, hx878_6, hx878_7, hx878_8, hx878_9, hl878_3, hi878_3⟩ := at_T61 HR0.out x5_1 p878 q878
    have hw878_9 := hx878_9
    have hw878_8 := hx878_8
    have hw878_7 := hx878_7
    have hw878_6 := hx878_6
    have hw878_5 := hx878_5
    have hw878_4 := hx878_4
    have hw878_3 := hx878_3
    have hw878_2 := hx878_2
    have hw878_1 := hx878_1
    have hw878_0 := hx878_0
    cases e878
    replace hx878_0 := cb_ HB hx878_0
    replace hx878_1 := cb_ HB hx878_1
    replace hx878_2 := cb_ HB hx878_2
    replace hx878_3 := cb_ HB hx878_3
    replace hx878_4 := cb_ HB hx878_4
    replace hx878_5 := cb_ HB hx878_5
    replace hx878_6 := cb_ HB hx878_6
    replace hx878_7 := cb_ HB hx878_7
    replace hx878_8 := cb_ HB hx878_8
    replace hx878_9 := cb_ HB hx878_9
    have HR878_3 := Aside0.mk hi878_3
    have HC878_3 := Aside0.mk hl878_3
    clear hi878_3 hl878_3
    replace p878 := eq_true p878
    replace q878 := eq_true q878
    have p879 : 0 ≤ (x5_1 : Int) := of_decide_eq_true z33_2
    have q879 : x5_1 < (l1.length : Int) := of_decide_eq_true z33_2
    obtain ⟨ad879, A879_3, c879_3, e879, hx879_0, hx879_1, hx879_2, hx879_3, hx879_4, hx879_5, hx879_6, hx879_7, hx879_8, hx879_9, hl879_3, hi879_3⟩ := at_T61 HR1.out x5_1 p879 q879
    have hw879_9 := hx879_9
    have hw879_8 := hx879_8
    have hw879_7 := hx879_7
    have hw879_6 := hx879_6
    have hw879_5 := hx879_5
    have hw879_4 := hx879_4
    have hw879_3 := hx879_3
    have hw879_2 := hx879_2
    have hw879_1 := hx879_1
    have hw879_0 := hx879_0
    cases e879
    replace hx879_0 := cb_ HB hx879_0
    replace hx879_1 := cb_ HB hx879_1
    replace hx879_2 := cb_ HB hx879_2
    replace hx879_3 := cb_ HB hx879_3
    replace hx879_4 := cb_ HB hx879_4
    replace hx879_5 := cb_ HB hx879_5
    replace hx879_6 := cb_ HB hx879_6
    replace hx879_7 := cb_ HB hx879_7
    replace hx879_8 := cb_ HB hx879_8
    replace hx879_9 := cb_ HB hx879_9
    have HR879_3 := Aside0.mk hi879_3
    have HC879_3 := Aside0.mk hl879_3
    clear hi879_3 hl879_3
    replace p879 := eq_true p879
    replace q879 := eq_true q879
    refine start_ (n := 10) (S := fun w' => w'.cell? (ad878.add ((x5_1).toNat * 10)) = some (.int .i64 ((rd_T61 l0 x5_1).f0.f0)) ∧ w'.cell? ⟨(ad878.add ((x5_1).toNat * 10)).block, (ad878.add ((x5_1).toNat * 10)).off + 1, none⟩ = some (.int .i64 ((rd_T61 l0 x5_1).f0.f1)) ∧ w'.cell? ⟨(ad878.add ((x5_1).toNat * 10)).block, (ad878.add ((x5_1).toNat * 10)).off + 2, none⟩ = some (.int .i64 ((rd_T61 l0 x5_1).f1)) ∧ w'.cell? ⟨(ad878.add ((x5_1).toNat * 10)).block, (ad878.add ((x5_1).toNat * 10)).off + 3, none⟩ = some (.slice A878_3 ((rd_T61 l0 x5_1).f2).length c878_3) ∧ w'.cell? ⟨(ad878.add ((x5_1).toNat * 10)).block, (ad878.add ((x5_1).toNat * 10)).off + 4, none⟩ = some (.int .i64 ((rd_T61 l0 x5_1).f3)) ∧ w'.cell? ⟨(ad878.add ((x5_1).toNat * 10)).block, (ad878.add ((x5_1).toNat * 10)).off + 5, none⟩ = some (.string ((rd_T61 l0 x5_1).f4)) ∧ w'.cell? ⟨(ad878.add ((x5_1).toNat * 10)).block, (ad878.add ((x5_1).toNat * 10)).off + 6, none⟩ = some (.string ((rd_T61 l0 x5_1).f5)) ∧ w'.cell? ⟨(ad878.add ((x5_1).toNat * 10)).block, (ad878.add ((x5_1).toNat * 10)).off + 7, none⟩ = some (.int .i64 ((rd_T61 l0 x5_1).f6)) ∧ w'.cell? ⟨(ad878.add ((x5_1).toNat * 10)).block, (ad878.add ((x5_1).toNat * 10)).off + 8, none⟩ = some (.int .i64 ((rd_T61 l0 x5_1).f7.f0)) ∧ w'.cell? ⟨(ad878.add ((x5_1).toNat * 10)).block, (ad878.add ((x5_1).toNat * 10)).off + 9, none⟩ = some (.int .i64 ((rd_T61 l0 x5_1).f7.f1)) ∧ w'.cell? (ad879.add ((x5_1).toNat * 10)) = some (.int .i64 ((rd_T61 l1 x5_1).f0.f0)) ∧ w'.cell? ⟨(ad879.add ((x5_1).toNat * 10)).block, (ad879.add ((x5_1).toNat * 10)).off + 1, none⟩ = some (.int .i64 ((rd_T61 l1 x5_1).f0.f1)) ∧ w'.cell? ⟨(ad879.add ((x5_1).toNat * 10)).block, (ad879.add ((x5_1).toNat * 10)).off + 2, none⟩ = some (.int .i64 ((rd_T61 l1 x5_1).f1)) ∧ w'.cell? ⟨(ad879.add ((x5_1).toNat * 10)).block, (ad879.add ((x5_1).toNat * 10)).off + 3, none⟩ = some (.slice A879_3 ((rd_T61 l1 x5_1).f2).length c879_3) ∧ w'.cell? ⟨(ad879.add ((x5_1).toNat * 10)).block, (ad879.add ((x5_1).toNat * 10)).off + 4, none⟩ = some (.int .i64 ((rd_T61 l1 x5_1).f3)) ∧ w'.cell? ⟨(ad879.add ((x5_1).toNat * 10)).block, (ad879.add ((x5_1).toNat * 10)).off + 5, none⟩ = some (.string ((rd_T61 l1 x5_1).f4)) ∧ w'.cell? ⟨(ad879.add ((x5_1).toNat * 10)).block, (ad879.add ((x5_1).toNat * 10)).off + 6, none⟩ = some (.string ((rd_T61 l1 x5_1).f5)) ∧ w'.cell? ⟨(ad879.add ((x5_1).toNat * 10)).block, (ad879.add ((x5_1).toNat * 10)).off + 7, none⟩ = some (.int .i64 ((rd_T61 l1 x5_1).f6)) ∧ w'.cell? ⟨(ad879.add ((x5_1).toNat * 10)).block, (ad879.add ((x5_1).toNat * 10)).off + 8, none⟩ = some (.int .i64 ((rd_T61 l1 x5_1).f7.f0)) ∧ w'.cell? ⟨(ad879.add ((x5_1).toNat * 10)).block, (ad879.add ((x5_1).toNat * 10)).off + 9, none⟩ = some (.int .i64 ((rd_T61 l1 x5_1).f7.f1))) (ds := []) mk33_0 z33_8 rfl rfl ⟨(cb_ HB hw878_0), (cb_ HB hw878_1), (cb_ HB hw878_2), (cb_ HB hw878_3), (cb_ HB hw878_4), (cb_ HB hw878_5), (cb_ HB hw878_6), (cb_ HB hw878_7), (cb_ HB hw878_8), (cb_ HB hw878_9), (cb_ HB hw879_0), (cb_ HB hw879_1), (cb_ HB hw879_2), (cb_ HB hw879_3), (cb_ HB hw879_4), (cb_ HB hw879_5), (cb_ HB hw879_6), (cb_ HB hw879_7), (cb_ HB hw879_8), (cb_ HB hw879_9)⟩ (fun hHeld => ?_); refine with_tabW laws_eqActS.tab6 laws_eqActS.bits6 (fun HT_ HW_ => ?_)
    generalize wr.drew = w11 at HB HR878_3 HR879_3 hx878_0 hx878_1 hx878_2 hx878_3 hx878_4 hx878_5 hx878_6 hx878_7 hx878_8 hx878_9 hx879_0 hx879_1 hx879_2 hx879_3 hx879_4 hx879_5 hx879_6 hx879_7 hx879_8 hx879_9 hHeld ⊢
    refine p_ (i := 0) (N := some 17) mk33_1 ?_ (hv := z33_7) (ha := z33_1)
    refine p_ (i := 1) (N := some 18) mk33_2 ?_ (hv := z33_7) (ha := z33_1)
    refine p_ (i := 2) (N := some 19) mk33_3 ?_ (hv := z33_7) (ha := z33_1)
    refine p_ (i := 4) (N := some 21) mk33_4 ?_ (hv := z33_7) (ha := z33_1)
    refine p_ (i := 5) (N := some 22) mk33_5 ?_ (hv := z33_7) (ha := z33_1)
    refine p_ (i := 6) (N := some 23) mk33_6 ?_ (hv := z33_7) (ha := z33_1)
    refine t_ (i := 3) (N := some 20) mk33_7 hHeld ?_ (ha := z33_1)
    refine t_ (i := 7) (N := some 24) mk33_8 hHeld ?_ (ha := z33_1)
    refine o_ (i := 8) (N := some 25) mk33_9 (fun K hK => ?_)
    refine goes_ Tryz.func35 z33_8 rfl #[.agg #[.int .i64 ((rd_T61 l0 x5_1).f0.f0), .int .i64 ((rd_T61 l0 x5_1).f0.f1), .int .i64 ((rd_T61 l0 x5_1).f1), .slice A878_3 ((rd_T61 l0 x5_1).f2).length c878_3, .int .i64 ((rd_T61 l0 x5_1).f3), .string ((rd_T61 l0 x5_1).f4), .string ((rd_T61 l0 x5_1).f5), .int .i64 ((rd_T61 l0 x5_1).f6), .int .i64 ((rd_T61 l0 x5_1).f7.f0), .int .i64 ((rd_T61 l0 x5_1).f7.f1)], .agg #[.int .i64 ((rd_T61 l1 x5_1).f0.f0), .int .i64 ((rd_T61 l1 x5_1).f0.f1), .int .i64 ((rd_T61 l1 x5_1).f1), .slice A879_3 ((rd_T61 l1 x5_1).f2).length c879_3, .int .i64 ((rd_T61 l1 x5_1).f3), .string ((rd_T61 l1 x5_1).f4), .string ((rd_T61 l1 x5_1).f5), .int .i64 ((rd_T61 l1 x5_1).f6), .int .i64 ((rd_T61 l1 x5_1).f7.f0), .int .i64 ((rd_T61 l1 x5_1).f7.f1)]] (by rfl) rfl rfl z33_9 ?_
    with_reducible refine (laws_eqAct.calls k1 ((rd_T61 l0 x5_1).f0.f0) ((rd_T61 l0 x5_1).f0.f1) ((rd_T61 l0 x5_1).f1) _ _ ((rd_T61 l0 x5_1).f2) ((rd_T61 l0 x5_1).f3) ((rd_T61 l0 x5_1).f4) ((rd_T61 l0 x5_1).f5) ((rd_T61 l0 x5_1).f6) ((rd_T61 l0 x5_1).f7.f0) ((rd_T61 l0 x5_1).f7.f1) ((rd_T61 l1 x5_1).f0.f0) ((rd_T61 l1 x5_1).f0.f1) ((rd_T61 l1 x5_1).f1) _ _ ((rd_T61 l1 x5_1).f2) ((rd_T61 l1 x5_1).f3) ((rd_T61 l1 x5_1).f4) ((rd_T61 l1 x5_1).f5) ((rd_T61 l1 x5_1).f6) ((rd_T61 l1 x5_1).f7.f0) ((rd_T61 l1 x5_1).f7.f1) false _ ?side1 ?side2 ?side3 ?side4 A7.out).mono ?_
    (case side1 => exact z33_10)
    (case side2 => exact HC878_3.out)
    (case side3 => exact z33_11)
    (case side4 => exact HC879_3.out)
    rintro e w12 ⟨rfl, hb⟩
    refine ⟨_, rfl, ?_⟩
    replace HB := Aside0.mk (below_step z33_0 hb)
    (try clear hb)
    (try clear hb2)
    (try clear hk)
    (try clear hi)
    refine hK.out _ _ ⟨(cb_ HB hw878_0), (cb_ HB hw878_1), (cb_ HB hw878_2), (cb_ HB hw878_3), (cb_ HB hw878_4), (cb_ HB hw878_5), (cb_ HB hw878_6), (cb_ HB hw878_7), (cb_ HB hw878_8), (cb_ HB hw878_9), (cb_ HB hw879_0), (cb_ HB hw879_1), (cb_ HB hw879_2), (cb_ HB hw879_3), (cb_ HB hw879_4), (cb_ HB hw879_5), (cb_ HB hw879_6), (cb_ HB hw879_7), (cb_ HB hw879_8), (cb_ HB hw879_9)⟩ (fun hHeld => ?_)
    clear hK K
    refine n_ (N := some 25) ?_
    refine p_ (i := 9) (N := some 26) mk33_10 ?_ (hv := z33_7) (ha := z33_1)
    refine done_ (done_of HT_.out z33_8) ?_
    try go_wp2
    go_ret
    exact ⟨z33_6, z33_0⟩
   subst c8
   rw [if_pos rfl] at H
   have H' := Aside0.mk H
   clear H
   try go_wp2
   replace HB := Aside0.mk (below_drew1 HB.out)
   have p878 : 0 ≤ (x5_1 : Int) := of_decide_eq_true z33_2
   have q878 : x5_1 < (l0.length : Int) := of_decide_eq_true z33_2
   obtain ⟨ad878, A878_3, c878_3, e878, hx878_0, hx878_1, hx878_2, hx878_3, hx878_4, hx878_5, hx878_6, hx878_7, hx878_8, hx878_9, hl878_3, hi878_3⟩ := at_T61 HR0.out x5_1 p878 q878
   have hw878_9 := hx878_9
   have hw878_8 := hx878_8
   have hw878_7 := hx878_7
   have hw878_6 := hx878_6
   have hw878_5 := hx878_5
   have hw878_4 := hx878_4
   have hw878_3 := hx878_3
   have hw878_2 := hx878_2
   have hw878_1 := hx878_1
   have hw878_0 := hx878_0
   cases e878
   replace hx878_0 := cb_ HB hx878_0
   replace hx878_1 := cb_ HB hx878_1
   replace hx878_2 := cb_ HB hx878_2
   replace hx878_3 := cb_ HB hx878_3
   replace hx878_4 := cb_ HB hx878_4
   replace hx878_5 := cb_ HB hx878_5
   replace hx878_6 := cb_ HB hx878_6
   replace hx878_7 := cb_ HB hx878_7
   replace hx878_8 := cb_ HB hx878_8
   replace hx878_9 := cb_ HB hx878_9
   have HR878_3 := Aside0.mk hi878_3
   have HC878_3 := Aside0.mk hl878_3
   clear hi878_3 hl878_3
   replace p878 := eq_true p878
   replace q878 := eq_true q878
   have p879 : 0 ≤ (x5_1 : Int) := of_decide_eq_true z33_2
   have q879 : x5_1 < (l1.length : Int) := of_decide_eq_true z33_2
   obtain ⟨ad879, A879_3, c879_3, e879, hx879_0, hx879_1, hx879_2, hx879_3, hx879_4, hx879_5, hx879_6, hx879_7, hx879_8, hx879_9, hl879_3, hi879_3⟩ := at_T61 HR1.out x5_1 p879 q879
   have hw879_9 := hx879_9
   have hw879_8 := hx879_8
   have hw879_7 := hx879_7
   have hw879_6 := hx879_6
   have hw879_5 := hx879_5
   have hw879_4 := hx879_4
   have hw879_3 := hx879_3
   have hw879_2 := hx879_2
   have hw879_1 := hx879_1
   have hw879_0 := hx879_0
   cases e879
   replace hx879_0 := cb_ HB hx879_0
   replace hx879_1 := cb_ HB hx879_1
   replace hx879_2 := cb_ HB hx879_2
   replace hx879_3 := cb_ HB hx879_3
   replace hx879_4 := cb_ HB hx879_4
   replace hx879_5 := cb_ HB hx879_5
   replace hx879_6 := cb_ HB hx879_6
   replace hx879_7 := cb_ HB hx879_7
   replace hx879_8 := cb_ HB hx879_8
   replace hx879_9 := cb_ HB hx879_9
   have HR879_3 := Aside0.mk hi879_3
   have HC879_3 := Aside0.mk hl879_3
   clear hi879_3 hl879_3
   replace p879 := eq_true p879
   replace q879 := eq_true q879
   refine start_ (n := 10) (S := fun w' => w'.cell? (ad878.add ((x5_1).toNat * 10)) = some (.int .i64 ((rd_T61 l0 x5_1).f0.f0)) ∧ w'.cell? ⟨(ad878.add ((x5_1).toNat * 10)).block, (ad878.add ((x5_1).toNat * 10)).off + 1, none⟩ = some (.int .i64 ((rd_T61 l0 x5_1).f0.f1)) ∧ w'.cell? ⟨(ad878.add ((x5_1).toNat * 10)).block, (ad878.add ((x5_1).toNat * 10)).off + 2, none⟩ = some (.int .i64 ((rd_T61 l0 x5_1).f1)) ∧ w'.cell? ⟨(ad878.add ((x5_1).toNat * 10)).block, (ad878.add ((x5_1).toNat * 10)).off + 3, none⟩ = some (.slice A878_3 ((rd_T61 l0 x5_1).f2).length c878_3) ∧ w'.cell? ⟨(ad878.add ((x5_1).toNat * 10)).block, (ad878.add ((x5_1).toNat * 10)).off + 4, none⟩ = some (.int .i64 ((rd_T61 l0 x5_1).f3)) ∧ w'.cell? ⟨(ad878.add ((x5_1).toNat * 10)).block, (ad878.add ((x5_1).toNat * 10)).off + 5, none⟩ = some (.string ((rd_T61 l0 x5_1).f4)) ∧ w'.cell? ⟨(ad878.add ((x5_1).toNat * 10)).block, (ad878.add ((x5_1).toNat * 10)).off + 6, none⟩ = some (.string ((rd_T61 l0 x5_1).f5)) ∧ w'.cell? ⟨(ad878.add ((x5_1).toNat * 10)).block, (ad878.add ((x5_1).toNat * 10)).off + 7, none⟩ = some (.int .i64 ((rd_T61 l0 x5_1).f6)) ∧ w'.cell? ⟨(ad878.add ((x5_1).toNat * 10)).block, (ad878.add ((x5_1).toNat * 10)).off + 8, none⟩ = some (.int .i64 ((rd_T61 l0 x5_1).f7.f0)) ∧ w'.cell? ⟨(ad878.add ((x5_1).toNat * 10)).block, (ad878.add ((x5_1).toNat * 10)).off + 9, none⟩ = some (.int .i64 ((rd_T61 l0 x5_1).f7.f1)) ∧ w'.cell? (ad879.add ((x5_1).toNat * 10)) = some (.int .i64 ((rd_T61 l1 x5_1).f0.f0)) ∧ w'.cell? ⟨(ad879.add ((x5_1).toNat * 10)).block, (ad879.add ((x5_1).toNat * 10)).off + 1, none⟩ = some (.int .i64 ((rd_T61 l1 x5_1).f0.f1)) ∧ w'.cell? ⟨(ad879.add ((x5_1).toNat * 10)).block, (ad879.add ((x5_1).toNat * 10)).off + 2, none⟩ = some (.int .i64 ((rd_T61 l1 x5_1).f1)) ∧ w'.cell? ⟨(ad879.add ((x5_1).toNat * 10)).block, (ad879.add ((x5_1).toNat * 10)).off + 3, none⟩ = some (.slice A879_3 ((rd_T61 l1 x5_1).f2).length c879_3) ∧ w'.cell? ⟨(ad879.add ((x5_1).toNat * 10)).block, (ad879.add ((x5_1).toNat * 10)).off + 4, none⟩ = some (.int .i64 ((rd_T61 l1 x5_1).f3)) ∧ w'.cell? ⟨(ad879.add ((x5_1).toNat * 10)).block, (ad879.add ((x5_1).toNat * 10)).off + 5, none⟩ = some (.string ((rd_T61 l1 x5_1).f4)) ∧ w'.cell? ⟨(ad879.add ((x5_1).toNat * 10)).block, (ad879.add ((x5_1).toNat * 10)).off + 6, none⟩ = some (.string ((rd_T61 l1 x5_1).f5)) ∧ w'.cell? ⟨(ad879.add ((x5_1).toNat * 10)).block, (ad879.add ((x5_1).toNat * 10)).off + 7, none⟩ = some (.int .i64 ((rd_T61 l1 x5_1).f6)) ∧ w'.cell? ⟨(ad879.add ((x5_1).toNat * 10)).block, (ad879.add ((x5_1).toNat * 10)).off + 8, none⟩ = some (.int .i64 ((rd_T61 l1 x5_1).f7.f0)) ∧ w'.cell? ⟨(ad879.add ((x5_1).toNat * 10)).block, (ad879.add ((x5_1).toNat * 10)).off + 9, none⟩ = some (.int .i64 ((rd_T61 l1 x5_1).f7.f1))) (ds := []) mk33_0 z33_8 rfl rfl ⟨(cb_ HB hw878_0), (cb_ HB hw878_1), (cb_ HB hw878_2), (cb_ HB hw878_3), (cb_ HB hw878_4), (cb_ HB hw878_5), (cb_ HB hw878_6), (cb_ HB hw878_7), (cb_ HB hw878_8), (cb_ HB hw878_9), (cb_ HB hw879_0), (cb_ HB hw879_1), (cb_ HB hw879_2), (cb_ HB hw879_3), (cb_ HB hw879_4), (cb_ HB hw879_5), (cb_ HB hw879_6), (cb_ HB hw879_7), (cb_ HB hw879_8), (cb_ HB hw879_9)⟩ (fun hHeld => ?_); refine with_tabW laws_eqActS.tab6 laws_eqActS.bits6 (fun HT_ HW_ => ?_)
   generalize wr.drew = w9 at HB HR878_3 HR879_3 hx878_0 hx878_1 hx878_2 hx878_3 hx878_4 hx878_5 hx878_6 hx878_7 hx878_8 hx878_9 hx879_0 hx879_1 hx879_2 hx879_3 hx879_4 hx879_5 hx879_6 hx879_7 hx879_8 hx879_9 hHeld ⊢
   refine p_ (i := 0) (N := some 17) mk33_1 ?_ (hv := z33_7) (ha := z33_1)
   refine p_ (i := 1) (N := some 18) mk33_2 ?_ (hv := z33_7) (ha := z33_1)
   refine p_ (i := 2) (N := some 19) mk33_3 ?_ (hv := z33_7) (ha := z33_1)
   refine p_ (i := 4) (N := some 21) mk33_4 ?_ (hv := z33_7) (ha := z33_1)
   refine p_ (i := 5) (N := some 22) mk33_5 ?_ (hv := z33_7) (ha := z33_1)
   refine p_ (i := 6) (N := some 23) mk33_6 ?_ (hv := z33_7) (ha := z33_1)
   refine t_ (i := 3) (N := some 20) mk33_7 hHeld ?_ (ha := z33_1)
   refine t_ (i := 7) (N := some 24) mk33_8 hHeld ?_ (ha := z33_1)
   refine o_ (i := 8) (N := some 25) mk33_9 (fun K hK => ?_)
   refine goes_ Tryz.func35 z33_8 rfl #[.agg #[.int .i64 ((rd_T61 l0 x5_1).f0.f0), .int .i64 ((rd_T61 l0 x5_1).f0.f1), .int .i64 ((rd_T61 l0 x5_1).f1), .slice A878_3 ((rd_T61 l0 x5_1).f2).length c878_3, .int .i64 ((rd_T61 l0 x5_1).f3), .string ((rd_T61 l0 x5_1).f4), .string ((rd_T61 l0 x5_1).f5), .int .i64 ((rd_T61 l0 x5_1).f6), .int .i64 ((rd_T61 l0 x5_1).f7.f0), .int .i64 ((rd_T61 l0 x5_1).f7.f1)], .agg #[.int .i64 ((rd_T61 l1 x5_1).f0.f0), .int .i64 ((rd_T61 l1 x5_1).f0.f1), .int .i64 ((rd_T61 l1 x5_1).f1), .slice A879_3 ((rd_T61 l1 x5_1).f2).length c879_3, .int .i64 ((rd_T61 l1 x5_1).f3), .string ((rd_T61 l1 x5_1).f4), .string ((rd_T61 l1 x5_1).f5), .int .i64 ((rd_T61 l1 x5_1).f6), .int .i64 ((rd_T61 l1 x5_1).f7.f0), .int .i64 ((rd_T61 l1 x5_1).f7.f1)]] (by rfl) rfl rfl z33_9 ?_
   with_reducible refine (laws_eqAct.calls k1 ((rd_T61 l0 x5_1).f0.f0) ((rd_T61 l0 x5_1).f0.f1) ((rd_T61 l0 x5_1).f1) _ _ ((rd_T61 l0 x5_1).f2) ((rd_T61 l0 x5_1).f3) ((rd_T61 l0 x5_1).f4) ((rd_T61 l0 x5_1).f5) ((rd_T61 l0 x5_1).f6) ((rd_T61 l0 x5_1).f7.f0) ((rd_T61 l0 x5_1).f7.f1) ((rd_T61 l1 x5_1).f0.f0) ((rd_T61 l1 x5_1).f0.f1) ((rd_T61 l1 x5_1).f1) _ _ ((rd_T61 l1 x5_1).f2) ((rd_T61 l1 x5_1).f3) ((rd_T61 l1 x5_1).f4) ((rd_T61 l1 x5_1).f5) ((rd_T61 l1 x5_1).f6) ((rd_T61 l1 x5_1).f7.f0) ((rd_T61 l1 x5_1).f7.f1) true _ ?side1 ?side2 ?side3 ?side4 A7.out).mono ?_
   (case side1 => exact z33_10)
   (case side2 => exact HC878_3.out)
   (case side3 => exact z33_11)
   (case side4 => exact HC879_3.out)
   rintro e w10 ⟨rfl, hb⟩
   refine ⟨_, rfl, ?_⟩
   replace HB := Aside0.mk (below_step z33_0 hb)
   (try clear hb)
   (try clear hb2)
   (try clear hk)
   (try clear hi)
   refine hK.out _ _ ⟨(cb_ HB hw878_0), (cb_ HB hw878_1), (cb_ HB hw878_2), (cb_ HB hw878_3), (cb_ HB hw878_4), (cb_ HB hw878_5), (cb_ HB hw878_6), (cb_ HB hw878_7), (cb_ HB hw878_8), (cb_ HB hw878_9), (cb_ HB hw879_0), (cb_ HB hw879_1), (cb_ HB hw879_2), (cb_ HB hw879_3), (cb_ HB hw879_4), (cb_ HB hw879_5), (cb_ HB hw879_6), (cb_ HB hw879_7), (cb_ HB hw879_8), (cb_ HB hw879_9)⟩ (fun hHeld => ?_)
   clear hK K
   refine n_ (N := some 25) ?_
   refine p_ (i := 9) (N := some 26) mk33_10 ?_ (hv := z33_7) (ha := z33_1)
   refine done_ (done_of HT_.out z33_8) ?_
   try go_wp2
   go_roundg k1
   case measure => have := HK1.out; omega
   case rel => exact ⟨(wrap64 (x5_1 + 1)), z33_5, H', ⟨by have := HK1.out; omega⟩, ⟨z33_0⟩⟩
def laws_markIntS.l0 : Nat → List Int → Int → Int → Option (Int × List Int)
  | 0, _, _, _ => none
  | k + 1, x0, x1, x5 => if x5 < (x0.length : Int) then (if 0 ≤ x5 then (laws_markIntS.l0 k (x0.set (x5 : Int).toNat x1) (wrap64 (x1 + 1)) (wrap64 (x5 + 1))) else (none)) else (some (x1, x0))
def laws_markIntS.f (k : Nat) (l0 : List Int) (a1 : Int) : Option (Int × List Int) := laws_markIntS.l0 k l0 a1 0
set_option maxHeartbeats 8000000 in
set_option maxRecDepth 100000 in
theorem laws_markIntS.calls (k : Nat) (P0_ : Nat → Prop) (u9000_ : Value) (l0 : List Int) (a1 : Int) (r1 : Int) (r2 : List Int) (w0 w : World) (hB : Below w0.heap.size w0 w) (ho0 : Kd.R (Kd.int .i64) 3 w w0.heap.size P0_ u9000_ l0) (h : laws_markIntS.f k l0 a1 = some (r1, r2)) :
  Calls Tryz.prog 15 #[u9000_, .int .i64 a1] w fun e w' => e = .returned (.int .i64 r1) ∧ Kd.R (Kd.int .i64) 3 w' w0.heap.size (fun k_ => (P0_ k_ ∨ w.heap.size ≤ k_)) u9000_ r2 ∧ Below w0.heap.size w0 w' ∧ Kept w w' (fun k_ => P0_ k_) := by
 have HO0 := Aside0.mk (show Kd.R (Kd.int .i64) 3 w w0.heap.size (fun k_ => (P0_ k_ ∨ w.heap.size ≤ k_)) u9000_ l0 from Kd.R_mono ho0 (fun k_ hk => (.inl hk)))
 have HK := Aside0.mk (Kept.refl w (fun k_ => P0_ k_))
 have HW0 := Aside0.mk hB.size
 have HB := Aside0.mk hB
 clear hB
 have H : (laws_markIntS.l0 k l0 a1 0) = some (r1, r2) := h
 clear h
 have H' := Aside0.mk H
 clear H
 go_enter Tryz.func15, Tryz.ntmps15
 go_wp2
 go_loopg [1, 5] k (fun kq v1 v5 w' => ∃ (x0_1 : List Int) (x1_1 : Int) (x5_1 : Int), v1 = .int .i64 x1_1 ∧ v5 = .int .i64 x5_1 ∧ Aside0 (laws_markIntS.l0 kq x0_1 x1_1 x5_1 = some (r1, r2)) ∧ Aside0 (kq ≤ k) ∧ Aside0 (Kd.R (Kd.int .i64) 3 w' w0.heap.size (fun k_ => (P0_ k_ ∨ w.heap.size ≤ k_)) u9000_ x0_1) ∧ Aside0 (Kept w w' (fun k_ => P0_ k_)) ∧ Aside0 (Below w0.heap.size w0 w'))
 case atStart => exact ⟨(l0), (a1), (0), z33_5, z33_5, H', ⟨Nat.le_refl _⟩, ⟨by (with_reducible repeat (first | apply Kd.R_alloc | apply Kd.R_drewN | apply Kd.R_drew)); exact HO0.out⟩, ⟨z33_3⟩, ⟨z33_0⟩⟩
 case round =>
  clear H'
  try clear c1
  try clear p2
  obtain ⟨x0_1, x1_1, x5_1, rfl, rfl, HA, HK1, HO_0, HK, HB⟩ := hrel
  cases gk with
  | zero => exact absurd HA.out (by simp [laws_markIntS.l0])
  | succ k1 =>
   have H := HA.out
   clear HA
   simp only [laws_markIntS.l0] at H
   by_cases c3 : x5_1 < (x0_1.length : Int)
   rotate_left
   ·
    rw [if_neg c3] at H
    have c3b0 : decide (x5_1 < (x0_1.length : Int)) = false := decide_eq_false c3
    clear c3
    simp only [Option.some.injEq, Prod.mk.injEq] at H
    obtain ⟨rfl, rfl⟩ := H
    obtain ⟨Ao9, co9, eo9⟩ := Kd.R_slice HO_0.out
    subst eo9
    go_wp2
    go_ret
    exact ⟨z33_6, z33_4, z33_0, z33_3⟩
   rw [if_pos c3] at H
   have c3b0 : decide (x5_1 < (x0_1.length : Int)) = true := decide_eq_true c3
   clear c3
   by_cases c4 : 0 ≤ x5_1
   rotate_left
   ·
    rw [if_neg c4] at H
    exact absurd H (by simp)
   rw [if_pos c4] at H
   have c4b0 : decide (0 ≤ x5_1) = true := decide_eq_true c4
   clear c4
   obtain ⟨y881, hy881⟩ : ∃ y_ : List Int, y_ = (x0_1.set (x5_1 : Int).toNat x1_1) := ⟨_, rfl⟩
   replace H : (laws_markIntS.l0 k1 y881 (wrap64 (x1_1 + 1)) (wrap64 (x5_1 + 1))) = some (r1, r2) := by first | (rw [hy881]; with_reducible exact H) | (have H2_ := (Option.bind_some _ _).symm.trans H; rw [hy881]; with_reducible exact H2_) | (have H2_ := (Option.bind_some _ _).symm.trans H; with_reducible exact H2_) | with_reducible exact H | (rw [hy881]; exact H) | exact H
   have Ny881 := Aside0.mk hy881
   clear hy881
   have H' := Aside0.mk H
   clear H
   obtain ⟨Ao6, co6, eo6⟩ := Kd.R_slice HO_0.out
   subst eo6
   have p5 : 0 ≤ (x5_1 : Int) := of_decide_eq_true z33_2
   have q5 : (x5_1 : Int) < ((x0_1.length : Int) : Int) := of_decide_eq_true z33_2
   obtain ⟨go5, co5, eo5, gb5, gl5, cl5, HG5⟩ := Kd.R_form HO_0.out (by omega)
   (first | cases eo5 | (injection eo5 with ea_ en_ ec_; (first | subst ea_ | (injection ea_ with ea_; subst ea_)); subst ec_; clear en_))
   have GB5 := Aside0.mk gb5
   have GG5 := Aside0.mk HG5
   clear gb5 gl5 HG5
   have HMgo5 := Aside0.mk (show (P0_ go5 ∨ w.heap.size ≤ go5) from (HO_0.out.1 _ rfl))
   obtain ⟨hx5_0, hf5_0⟩ := Kd.R_celln 0 HO_0.out (x5_1 : Int) p5 q5
   replace p5 := eq_true p5
   replace q5 := eq_true q5
   have HP7 := Kd.R_putg HO_0.out (x5_1 : Int) x1_1
   go_wp2_with (first | ((with_reducible refine gate_store (t := 3) (p := 15) rfl ?_); refine store_event (t := 3) (p := 15) (v := ?vo_w8) (w1 := (wr.setCell ⟨go5, (x5_1 : Int).toNat, none⟩ (.int .i64 x1_1))) ?hg ?ho ?hn ?hr ?_; (case ho => rfl); (case hg => rfl); (case hn => rfl); (case hr => first | (go_simp; done) | (go_simp; rfl)); intro w8 hw; have hg : wr.grownBy w8 (some go5) := (by rw [hw]; exact HP7.2); have hp_ : Kd.R (Kd.int .i64) 3 w8 w0.heap.size (fun k_ => (P0_ k_ ∨ w.heap.size ≤ k_)) (.slice (some ⟨go5, 0, none⟩) x0_1.length co6) y881 := (by rw [hw, Ny881.out]; exact HP7.1); clear HP7; replace HB := Aside0.mk ((by rw [hw]; exact below_set (HB.out) GB5.out : Below w0.heap.size w0 w8)); replace HK := Aside0.mk (Kept.of_grown (S := (fun k_ => P0_ k_)) hg z33_3 (fun k_ e_ => (HO_0.out.1 k_ e_))); replace HO_0 := Aside0.mk (hp_); clear hg hw hp_))
   go_roundg k1
   case measure => have := HK1.out; omega
   case rel => exact ⟨(y881), (wrap64 (x1_1 + 1)), (wrap64 (x5_1 + 1)), z33_5, z33_5, H', ⟨by have := HK1.out; omega⟩, ⟨z33_4⟩, ⟨z33_3⟩, ⟨z33_0⟩⟩
def laws_markText.l0 : Nat → Int → ByteArray → Option (ByteArray)
  | 0, _, _ => none
  | k + 1, x0, x3 => if x0 > 0 then ((some (([(wrap64 (48 + (Int.tmod x0 10))) % 256] : List Int) : List Int)).bind fun y882 => (if (strOfNums y882).size + x3.size ≤ 9223372036854775807 then (laws_markText.l0 k (wrap64 (Int.tdiv x0 10)) ((strOfNums y882) ++ x3)) else (none))) else (if 1 + x3.size ≤ 9223372036854775807 then (some ((⟨#[109]⟩ : ByteArray) ++ x3)) else (none))
def laws_markText.f (k : Nat) (a0 : Int) : Option (ByteArray) := if a0 ≤ 0 then (some (⟨#[109, 48]⟩ : ByteArray)) else (laws_markText.l0 k a0 (⟨#[]⟩ : ByteArray))
set_option maxHeartbeats 8000000 in
set_option maxRecDepth 100000 in
theorem laws_markText.calls (k : Nat) (a0 : Int) (r : ByteArray) (w : World) (h : laws_markText.f k a0 = some r) :
  Calls Tryz.prog 39 #[.int .i64 a0] w fun e w' => e = .returned (.string r) ∧ Below w.heap.size w w' := by
 have HB := Aside0.mk (Below.refl w.heap.size w)
 have H : (if a0 ≤ 0 then (some (⟨#[109, 48]⟩ : ByteArray)) else (laws_markText.l0 k a0 (⟨#[]⟩ : ByteArray))) = some r := h
 clear h
 by_cases c2 : a0 ≤ 0
 ·
  rw [if_pos c2] at H
  have c2b0 : decide (a0 ≤ 0) = true := decide_eq_true c2
  clear c2
  obtain rfl := Option.some.inj H
  go_enter Tryz.func39, Tryz.ntmps39
  go_wp2
  go_ret
  exact ⟨z33_6, z33_0⟩
 rw [if_neg c2] at H
 have c2b0 : decide (a0 ≤ 0) = false := decide_eq_false c2
 clear c2
 have H' := Aside0.mk H
 clear H
 go_enter Tryz.func39, Tryz.ntmps39
 go_wp2
 go_loopg [0, 3] k (fun kq v0 v3 w' => ∃ (x0_1 : Int) (x3_1 : ByteArray), v0 = .int .i64 x0_1 ∧ v3 = .string x3_1 ∧ Aside0 (laws_markText.l0 kq x0_1 x3_1 = some r) ∧ Aside0 (kq ≤ k) ∧ Aside0 (Below w.heap.size w w'))
 case atStart => exact ⟨(a0), ((⟨#[]⟩ : ByteArray)), z33_5, z33_5, H', ⟨Nat.le_refl _⟩, ⟨z33_0⟩⟩
 case round =>
  clear H'
  try clear c2
  try clear c2b0
  try clear p2
  obtain ⟨x0_1, x3_1, rfl, rfl, HA, HK1, HB⟩ := hrel
  cases gk with
  | zero => exact absurd HA.out (by simp [laws_markText.l0])
  | succ k1 =>
   have H := HA.out
   clear HA
   simp only [laws_markText.l0] at H
   by_cases c3 : x0_1 > 0
   rotate_left
   ·
    rw [if_neg c3] at H
    have c3b0 : decide (0 < x0_1) = false := decide_eq_false c3
    clear c3
    by_cases c8 : 1 + x3_1.size ≤ 9223372036854775807
    rotate_left
    ·
     rw [if_neg c8] at H
     exact absurd H (by simp)
    rw [if_pos c8] at H
    have c8b0 := eq_true c8
    have c8b1 : decide (1 + x3_1.size ≤ 9223372036854775807) = true := decide_eq_true c8
    try have c8b2 : (9223372036854775807 < 1 + x3_1.size) = False := eq_false (Nat.not_lt.2 c8)
    obtain rfl := Option.some.inj H
    go_wp2
    go_ret
    exact ⟨z33_6, z33_0⟩
   rw [if_pos c3] at H
   have c3b0 : decide (0 < x0_1) = true := decide_eq_true c3
   clear c3
   obtain ⟨y882, hy882⟩ : ∃ y_ : List Int, y_ = (([(wrap64 (48 + (Int.tmod x0_1 10))) % 256] : List Int)) := ⟨_, rfl⟩
   replace H : (if (strOfNums y882).size + x3_1.size ≤ 9223372036854775807 then (laws_markText.l0 k1 (wrap64 (Int.tdiv x0_1 10)) ((strOfNums y882) ++ x3_1)) else (none)) = some r := by first | (rw [hy882]; with_reducible exact H) | (have H2_ := (Option.bind_some _ _).symm.trans H; rw [hy882]; with_reducible exact H2_) | (have H2_ := (Option.bind_some _ _).symm.trans H; with_reducible exact H2_) | with_reducible exact H | (rw [hy882]; exact H) | exact H
   have Ny882 := Aside0.mk hy882
   clear hy882
   by_cases c4 : (strOfNums y882).size + x3_1.size ≤ 9223372036854775807
   rotate_left
   ·
    rw [if_neg c4] at H
    exact absurd H (by simp)
   rw [if_pos c4] at H
   have c4b0 := eq_true c4
   have c4b1 : decide ((strOfNums y882).size + x3_1.size ≤ 9223372036854775807) = true := decide_eq_true c4
   try have c4b2 : (9223372036854775807 < (strOfNums y882).size + x3_1.size) = False := eq_false (Nat.not_lt.2 c4)
   have H' := Aside0.mk H
   clear H
   go_wp2_with (first | ((with_reducible refine gate_dst (N := 12) rfl ?_); refine Kd.R_lit (Kd.int .u8) _ 5 ?hg (N := 12) ?hd (xs := ([(wrap64 (48 + (Int.tmod x0_1 10))) % 256] : List Int)) (inner := [.int .u8 ((wrap64 (48 + (Int.tmod x0_1 10))) % 256)]) (ok := fun _ => True) (okp := fun _ => True) ?hr ?hp (fun _ hk => hk) trivial (Below.refl _ _) (Nat.le_refl _) (by simp) ?_; (case hd => rfl); (case hg => rfl); (case hr => first | (go_simp; done) | (go_simp; rfl)); (case hp => exact (Reps.one (show Kd.M (Kd.int .u8) _ _ _ ((wrap64 (48 + (Int.tmod x0_1 10))) % 256) [.int .u8 ((wrap64 (48 + (Int.tmod x0_1 10))) % 256)] from rfl) (Reps.none _ _))); intro v883 w5 ho6 hb hg_ hnew_; clear hg_ hnew_; (first | rw [← Ny882.out] at ho6 | (simp only [Int.reduceToNat] at ho6; rw [← Ny882.out] at ho6)); have HO884 := Aside0.mk (Kd.R_lower ho6 (below_size z33_0)); replace HB := Aside0.mk (below_step z33_0 hb); clear hb ho6; have hcv7 := own_string (P := Tryz.prog) Tryz.underlying108 Tryz.underlying5 Tryz.underlying9 (Kd.own_of_R HO884.out)))
   go_roundg k1
   case measure => have := HK1.out; omega
   case rel => exact ⟨(wrap64 (Int.tdiv x0_1 10)), ((strOfNums y882) ++ x3_1), z33_5, z33_5, H', ⟨by have := HK1.out; omega⟩, ⟨z33_0⟩⟩
def laws_markTallyS.l0 : Nat → List (S90) → Int → Int → Option (Int × List (S90))
  | 0, _, _, _ => none
  | k + 1, l, q, i => if i < (l.length : Int) then (if 0 ≤ i then ((laws_markText.f k q).bind fun t0 => laws_markTallyS.l0 k (l.set i.toNat (⟨t0, wrap64 (q + 1), wrap64 (wrap64 (q + 1) + 1)⟩ : S90)) (wrap64 (wrap64 (wrap64 (q + 1) + 1) + 1)) (wrap64 (i + 1))) else none) else some (q, l)
def laws_markTallyS.f (k : Nat) (l : List (S90)) (q : Int) : Option (Int × List (S90)) := laws_markTallyS.l0 k l q 0
theorem k90_put {w : World} {base : Nat} {ok ok' : Nat → Prop} {x : S90} {c : List Value} (h : k90.M w base ok x c) : (∀ v, k90.M w base ok' ⟨v, x.f1, x.f2⟩ (c.take 0 ++ [.string v] ++ c.drop (0 + 1))) ∧ (∀ v, k90.M w base ok' ⟨x.f0, v, x.f2⟩ (c.take 1 ++ [.int .i64 v] ++ c.drop (1 + 1))) ∧ (∀ v, k90.M w base ok' ⟨x.f0, x.f1, v⟩ (c.take 2 ++ [.int .i64 v] ++ c.drop (2 + 1))) := by
 obtain rfl := k90_openM h
 exact ⟨fun v => k90_mkM w base ok' ⟨v, x.f1, x.f2⟩, fun v => k90_mkM w base ok' ⟨x.f0, v, x.f2⟩, fun v => k90_mkM w base ok' ⟨x.f0, x.f1, v⟩⟩
set_option maxHeartbeats 8000000 in
set_option maxRecDepth 100000 in
theorem laws_markTallyS.calls (k : Nat) (P0_ : Nat → Prop) (u9000_ : Value) (l0 : List (S90)) (a1 : Int) (r1 : Int) (r2 : List (S90)) (w0 w : World) (hB : Below w0.heap.size w0 w) (ho0 : Kd.R k90 90 w w0.heap.size P0_ u9000_ l0) (h : laws_markTallyS.f k l0 a1 = some (r1, r2)) :
  Calls Tryz.prog 36 #[u9000_, .int .i64 a1] w fun e w' => e = .returned (.int .i64 r1) ∧ Kd.R k90 90 w' w0.heap.size (fun k_ => (P0_ k_ ∨ w.heap.size ≤ k_)) u9000_ r2 ∧ Below w0.heap.size w0 w' ∧ Kept w w' (fun k_ => P0_ k_) := by
 have hu90 := Tryz.underlying90
 obtain ⟨A, cap, rfl⟩ := Kd.R_slice ho0
 have ST := Aside0.mk ho0
 have HB := Aside0.mk hB
 have KW := Aside0.mk (Kept.refl w P0_)
 have H' := Aside0.mk h
 clear h ho0 hB
 go_enter Tryz.func36, Tryz.ntmps36
 go_wp2
 go_loopg [1, 5] k (fun kq v1 v5 w' => ∃ (lq : List (S90)) (q x : Int), v1 = .int .i64 q ∧ v5 = .int .i64 x ∧ Aside0 (laws_markTallyS.l0 kq lq q x = some (r1, r2)) ∧ Aside0 (kq ≤ k) ∧ Aside0 (Kd.R k90 90 w' w0.heap.size P0_ (.slice A l0.length cap) lq) ∧ Aside0 (lq.length = l0.length) ∧ Aside0 (Below w0.heap.size w0 w') ∧ Aside0 (Kept w w' P0_))
 case atStart => exact ⟨l0, a1, 0, rfl, rfl, H', ⟨Nat.le_refl _⟩, ⟨ST.out⟩, ⟨rfl⟩, ⟨HB.out⟩, ⟨KW.out⟩⟩
 case round =>
  clear H' ST HB KW
  obtain ⟨lq, q, x, rfl, rfl, HA, HK1, ST, HL, HB, KW⟩ := hrel
  cases gk with
  | zero => exact absurd HA.out (by simp [laws_markTallyS.l0])
  | succ k1 =>
   have H := HA.out
   clear HA
   simp only [laws_markTallyS.l0] at H
   rw [HL.out] at H
   replace H := ite_lt H
   rcases H with ⟨c, H⟩ | ⟨c, H⟩
   rotate_left
   ·
    obtain ⟨rfl, rfl⟩ : _ ∧ _ := by simpa only [Option.some.injEq, Prod.mk.injEq] using H
    go_wp2
    go_ret
    exact ⟨rfl, Kd.R_mono ST.out (fun _ h => .inl h), HB.out, KW.out⟩
   replace H := ite_le H
   rcases H with ⟨c', H⟩ | ⟨c', H⟩
   rotate_left
   · exact none_o H
   replace H := bind_o H
   obtain ⟨t0, A0, H⟩ := H
   (try dsimp only at H)
   have H' := Aside0.mk H
   clear H
   have hl := of_decide_eq_true c
   have hl' := of_decide_eq_true c'
   obtain ⟨g, cp, e0, hgb, hgl, _⟩ := Kd.R_form ST.out (by have := HL.out; omega)
   obtain rfl : A = some ⟨g, 0, none⟩ := by injection e0
   clear e0 cp
   have p := eqt c
   have p' := eqt c'
   have hx : x.toNat < lq.length := by have := HL.out; omega
   have PG : P0_ g := ST.out.1 g rfl
   have GB := Aside0.mk hgb
   replace ST := Aside0.mk ((set_self (z := z90) hx).symm ▸ ST.out : Kd.R k90 90 _ w0.heap.size P0_ (.slice (some ⟨g, 0, none⟩) l0.length cap) (lq.set x.toNat (lq.getD x.toNat z90)))
   generalize lq.getD x.toNat z90 = y at ST
   clear hgb
   have TK0 := Aside0.mk trivial
   have TK1 := Aside0.mk trivial
   have TK2 := Aside0.mk trivial
   go_wp2_with (first
    | ((with_reducible refine gate_no rfl ?_); clear TK0; refine stB_ (k := 0) z90 ST.out hl' hl hx (fun okx c hc => (k90_put hc).1 _) rfl rfl (by first | rfl | (simp; rfl)) rfl rfl rfl rfl (Nat.le_of_ble_eq_true rfl) ?_; intro w1 hS hG; replace KW := Aside0.mk (Kept.of_grown hG KW.out (fun k hk => by injection hk with hk; subst hk; exact .inl PG)); replace HB := Aside0.mk (below_grow HB.out hG GB.out HB.out.size); replace ST := Aside0.mk hS; clear hS hG)
    | ((with_reducible refine gate_no rfl ?_); clear TK1; refine stB_ (k := 1) z90 ST.out hl' hl hx (fun okx c hc => (k90_put hc).2.1 _) rfl rfl (by first | rfl | (simp; rfl)) rfl rfl rfl rfl (Nat.le_of_ble_eq_true rfl) ?_; intro w1 hS hG; replace KW := Aside0.mk (Kept.of_grown hG KW.out (fun k hk => by injection hk with hk; subst hk; exact .inl PG)); replace HB := Aside0.mk (below_grow HB.out hG GB.out HB.out.size); replace ST := Aside0.mk hS; clear hS hG)
    | ((with_reducible refine gate_no rfl ?_); clear TK2; refine stB_ (k := 2) z90 ST.out hl' hl hx (fun okx c hc => (k90_put hc).2.2 _) rfl rfl (by first | rfl | (simp; rfl)) rfl rfl rfl rfl (Nat.le_of_ble_eq_true rfl) ?_; intro w1 hS hG; replace KW := Aside0.mk (Kept.of_grown hG KW.out (fun k hk => by injection hk with hk; subst hk; exact .inl PG)); replace HB := Aside0.mk (below_grow HB.out hG GB.out HB.out.size); replace ST := Aside0.mk hS; clear hS hG)
    | (go_at_call 39; (with_reducible refine (laws_markText.calls k1 _ _ _ A0.out).mono ?_); rintro e w' ⟨rfl, hb⟩; replace KW := Aside0.mk (KW.out.below hb); replace ST := Aside0.mk (Kd.R_below ST.out hb); replace HB := Aside0.mk (below_step HB.out hb); clear hb)
    )
   go_roundg k1
   case measure => have := HK1.out; omega
   case rel => exact ⟨_, _, _, rfl, rfl, H', ⟨by have := HK1.out; omega⟩, ⟨ST.out⟩, ⟨by rw [List.length_set]; exact HL.out⟩, ⟨HB.out⟩, ⟨KW.out⟩⟩
end Go.Proofs.YtbanogkoaplcdaaGreat.QDa
