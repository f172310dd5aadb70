/- Parts of the proof of FnExactDoAll, one behind the other. No condition. -/
import Derived.Test.YtbanogkoaplcdaaGreatVFnExactDoAllM7
namespace Go.Proofs.YtbanogkoaplcdaaGreat.QDa
open Go.RowKit Go.Proofs.YtbanogkoaplcdaaGreat.Short Go.Proofs.YtbanogkoaplcdaaGreatW.PrintWords Go.Proofs.YtbanogkoaplcdaaGreatW.PrintLast Go.Proofs.YtbanogkoaplcdaaGreatW.PrintMore
attribute [local go_sem] max2_int min2_int max_two min_two max_three min_three max_four min_four   -- for this text's walks alone
set_option linter.unusedVariables false
set_option linter.unusedSimpArgs false
theorem z25_2 {P : Prop} (h : P := by first | rfl | (simp; done) | (simp [*]; done)) : P := h
theorem z25_1 {P : Prop} (h : P := by first | (with_reducible assumption) | assumption) : P := h
theorem z25_0 {P : Prop} (h : P := by repeat (first | exact Drawn0.refl _ | apply Drawn0.step)) : P := h
theorem z25_3 {P : Prop} (h : P := by repeat (first | exact HR0.out | (with_reducible refine Kd.C_alloc ?_ _) | (with_reducible refine Kd.C_drewN ?_ _) | (with_reducible refine Kd.C_drew ?_))) : P := h
mutual
def impl_KnowIn.j0 : Nat → List Int → List Int → Bool → Option (Bool)
  | 0, _, _, _ => none
  | k + 1, x0, x1, x14 => if x14 = true then (some false) else (impl_KnowIn.l0 k x1 x0 (x0.length : Int) 0)
def impl_KnowIn.l0 : Nat → List Int → List Int → Int → Int → Option (Bool)
  | 0, _, _, _, _ => none
  | k + 1, x1, x15, x16, x17 => if x17 < x16 then (if 0 ≤ x17 then (if x17 < (x15.length : Int) then (if x17 < (x1.length : Int) then (if (rd x15 x17) > (rd x1 x17) then (some false) else (impl_KnowIn.l0 k x1 x15 x16 (wrap64 (x17 + 1)))) else (none)) else (none)) else (none)) else (some true)
end


def impl_KnowIn.f (k : Nat) (l0 : List Int) (l1 : List Int) : Option (Bool) := (impl_KnowOk.f k l0).bind fun t547 => (if t547 = true then ((impl_KnowOk.f k l1).bind fun t548 => (impl_KnowIn.j0 k l0 l1 (!t548))) else (impl_KnowIn.j0 k l0 l1 true))
set_option maxHeartbeats 8000000 in
set_option maxRecDepth 100000 in
theorem impl_KnowIn.calls (k : Nat) (A0 : Option Addr) (c0 : Nat) (l0 : List Int) (A1 : Option Addr) (c1 : Nat) (l1 : List Int) (r : Bool) (w : World) (hr0 : Kd.C (Kd.int .i64) w A0 l0.length l0) (hc0 : l0.length ≤ c0) (hr1 : Kd.C (Kd.int .i64) w A1 l1.length l1) (hc1 : l1.length ≤ c1) (h : impl_KnowIn.f k l0 l1 = some r) :
  Calls Tryz.prog 60 #[.slice A0 l0.length c0, .slice A1 l1.length c1] w fun e w' => e = .returned (.bool r) ∧ Drawn0 w w' := by
 have HR0 := Aside0.mk hr0
 have HC0 := Aside0.mk hc0
 clear hr0 hc0
 have HR1 := Aside0.mk hr1
 have HC1 := Aside0.mk hc1
 clear hr1 hc1
 have H := h
 unfold impl_KnowIn.f at H
 clear h
 have HC3 := Aside0.mk H
 clear H
 go_enter Tryz.func60, Tryz.ntmps60
 go_upto_region 1 with (fail)
 go_cut [14] (fun v14 wc => ∃ (kq : Nat) (x14_2 : Bool), v14 = .bool x14_2 ∧ Aside0 (impl_KnowIn.j0 kq l0 l1 x14_2 = some r) ∧ Aside0 (kq ≤ k) ∧ Drawn0 w wc)
 case first =>
  have H := HC3.out
  clear HC3
  replace H := Option.bind_eq_some_iff.mp H
  obtain ⟨t547, A40, H⟩ := H
  (try dsimp only at H)
  have A4 := Aside0.mk A40
  clear A40
  by_cases c5 : t547 = true
  rotate_left
  ·
   replace c5 := Bool.eq_false_iff.mpr c5
   subst c5
   rw [if_neg (show ¬ (false = true) by decide)] at H
   have H' := Aside0.mk H
   clear H
   go_wp2_with (first | ((with_reducible refine gate_callee (f := 83) rfl ?_); refine goesL_ (some 8) rfl rfl Tryz.func83 (by kernel_rfl) rfl #[.slice A0 l0.length c0] rfl (by first | rfl | (simp only [List.map_toArray, List.map_cons, List.map_nil]; first | done | rfl)) ?_; (with_reducible refine (impl_KnowOk.calls k _ _ l0 false _ ?side1 ?side2 A4.out).mono ?_); (case side1 => exact z25_3); (case side2 => exact HC0.out); rintro e w' ⟨rfl, ⟨nd, rfl⟩⟩; refine ⟨_, rfl, ?_⟩))
   go_meet
   case rel => exact ⟨_, (true), z25_2, H', ⟨by first | omega | exact Nat.le_refl _⟩, z25_0⟩
  subst c5
  rw [if_pos rfl] at H
  replace H := Option.bind_eq_some_iff.mp H
  obtain ⟨t548, A60, H⟩ := H
  (try dsimp only at H)
  have A6 := Aside0.mk A60
  clear A60
  have H' := Aside0.mk H
  clear H
  go_wp2_with (first | ((with_reducible refine gate_callee (f := 83) rfl ?_); refine goesL_ (some 8) rfl rfl Tryz.func83 (by kernel_rfl) rfl #[.slice A0 l0.length c0] rfl (by first | rfl | (simp only [List.map_toArray, List.map_cons, List.map_nil]; first | done | rfl)) ?_; (with_reducible refine (impl_KnowOk.calls k _ _ l0 true _ ?side1 ?side2 A4.out).mono ?_); (case side1 => exact z25_3); (case side2 => exact HC0.out); rintro e w' ⟨rfl, ⟨nd, rfl⟩⟩; refine ⟨_, rfl, ?_⟩) | (go_at_call 83; (with_reducible refine (impl_KnowOk.calls k _ _ l1 t548 _ ?side1 ?side2 A6.out).mono ?_); (case side1 => repeat (first | exact HR1.out | (with_reducible refine Kd.C_alloc ?_ _) | (with_reducible refine Kd.C_drewN ?_ _) | (with_reducible refine Kd.C_drew ?_))); (case side2 => exact HC1.out); rintro e w' ⟨rfl, ⟨nd, rfl⟩⟩))
  go_meet
  case rel => exact ⟨_, (!t548), z25_2, H', ⟨by first | omega | exact Nat.le_refl _⟩, z25_0⟩
 case rest =>
  clear HC3
  try clear c1
  try clear p2
  try clear c5
  try clear c6
  obtain ⟨kq, x14_2, rfl, HA, HJ2, ⟨mc2, rfl⟩⟩ := hcut
  cases kq with
  | zero => exact absurd HA.out (by simp [impl_KnowIn.j0])
  | succ kj2 =>
   have H := HA.out
   clear HA
   simp only [impl_KnowIn.j0] at H
   by_cases c7 : x14_2 = true
   ·
    subst c7
    rw [if_pos rfl] at H
    obtain rfl := Option.some.inj H
    go_wp2
    go_ret
    exact ⟨z25_2, z25_0⟩
   replace c7 := Bool.eq_false_iff.mpr c7
   subst c7
   rw [if_neg (show ¬ (false = true) by decide)] at H
   have H' := Aside0.mk H
   clear H
   go_wp2
   go_loopg [17] kj2 (fun kq v17 w' => ∃ (x17_2 : Int), v17 = .int .i64 x17_2 ∧ Aside0 (impl_KnowIn.l0 kq l1 l0 (l0.length : Int) x17_2 = some r) ∧ Aside0 (kq ≤ kj2) ∧ Drawn0 w w')
   case atStart => exact ⟨(0), z25_2, H', ⟨Nat.le_refl _⟩, z25_0⟩
   case round =>
    clear H'
    try clear c1
    try clear c2
    try clear p2
    try clear c5
    try clear c6
    try clear c7
    try clear p2
    obtain ⟨x17_2, rfl, HA, HK2, ⟨m2, rfl⟩⟩ := hrel
    cases gk with
    | zero => exact absurd HA.out (by simp [impl_KnowIn.l0])
    | succ k2 =>
     have H := HA.out
     clear HA
     simp only [impl_KnowIn.l0] at H
     by_cases c8 : x17_2 < (l0.length : Int)
     rotate_left
     ·
      rw [if_neg c8] at H
      have c8b0 : decide (x17_2 < (l0.length : Int)) = false := decide_eq_false c8
      clear c8
      obtain rfl := Option.some.inj H
      go_wp2
      go_ret
      exact ⟨z25_2, z25_0⟩
     rw [if_pos c8] at H
     have c8b0 : decide (x17_2 < (l0.length : Int)) = true := decide_eq_true c8
     clear c8
     by_cases c9 : 0 ≤ x17_2
     rotate_left
     ·
      rw [if_neg c9] at H
      exact absurd H (by simp)
     rw [if_pos c9] at H
     have c9b0 : decide (0 ≤ x17_2) = true := decide_eq_true c9
     clear c9
     by_cases c10 : x17_2 < (l0.length : Int)
     rotate_left
     ·
      rw [if_neg c10] at H
      exact absurd H (by simp)
     rw [if_pos c10] at H
     have c10b0 : decide (x17_2 < (l0.length : Int)) = true := decide_eq_true c10
     clear c10
     by_cases c11 : x17_2 < (l1.length : Int)
     rotate_left
     ·
      rw [if_neg c11] at H
      exact absurd H (by simp)
     rw [if_pos c11] at H
     have c11b0 : decide (x17_2 < (l1.length : Int)) = true := decide_eq_true c11
     clear c11
     by_cases c12 : (rd l0 x17_2) > (rd l1 x17_2)
     ·
      rw [if_pos c12] at H
      have c12b0 : decide ((rd l1 x17_2) < (rd l0 x17_2)) = true := decide_eq_true c12
      clear c12
      obtain rfl := Option.some.inj H
      have p549 : 0 ≤ (x17_2 : Int) := of_decide_eq_true z25_1
      have q549 : x17_2 < (l0.length : Int) := of_decide_eq_true z25_1
      obtain ⟨ad549, e549, hx549_0⟩ := Kd.at_int HR0.out x17_2 p549 q549
      cases e549
      replace p549 := eq_true p549
      replace q549 := eq_true q549
      have p550 : 0 ≤ (x17_2 : Int) := of_decide_eq_true z25_1
      have q550 : x17_2 < (l1.length : Int) := of_decide_eq_true z25_1
      obtain ⟨ad550, e550, hx550_0⟩ := Kd.at_int HR1.out x17_2 p550 q550
      cases e550
      replace p550 := eq_true p550
      replace q550 := eq_true q550
      go_wp2
      go_ret
      exact ⟨z25_2, z25_0⟩
     rw [if_neg c12] at H
     have c12b0 : decide ((rd l1 x17_2) < (rd l0 x17_2)) = false := decide_eq_false c12
     clear c12
     have H' := Aside0.mk H
     clear H
     have p549 : 0 ≤ (x17_2 : Int) := of_decide_eq_true z25_1
     have q549 : x17_2 < (l0.length : Int) := of_decide_eq_true z25_1
     obtain ⟨ad549, e549, hx549_0⟩ := Kd.at_int HR0.out x17_2 p549 q549
     cases e549
     replace p549 := eq_true p549
     replace q549 := eq_true q549
     have p550 : 0 ≤ (x17_2 : Int) := of_decide_eq_true z25_1
     have q550 : x17_2 < (l1.length : Int) := of_decide_eq_true z25_1
     obtain ⟨ad550, e550, hx550_0⟩ := Kd.at_int HR1.out x17_2 p550 q550
     cases e550
     replace p550 := eq_true p550
     replace q550 := eq_true q550
     go_wp2
     go_roundg k2
     case measure => have := HJ2.out; have := HK2.out; omega
     case rel => exact ⟨(wrap64 (x17_2 + 1)), z25_2, H', ⟨by have := HJ2.out; have := HK2.out; omega⟩, z25_0⟩
end Go.Proofs.YtbanogkoaplcdaaGreat.QDa
