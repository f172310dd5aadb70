/- Parts of the proof of FnExactDoAll, one behind the other. No condition. -/
import Derived.Test.YtbanogkoaplcdaaGreatVFnExactDoAllM21
namespace Go.Proofs.YtbanogkoaplcdaaGreat.QDa
open Go.RowKit Go.Proofs.YtbanogkoaplcdaaGreat.Auto Go.Proofs.YtbanogkoaplcdaaGreat.Lock Go.Proofs.YtbanogkoaplcdaaGreat.Short Go.Proofs.YtbanogkoaplcdaaGreatW.PrintWords Go.Proofs.YtbanogkoaplcdaaGreatW.PrintLast Go.Proofs.YtbanogkoaplcdaaGreatW.PrintMore
attribute [local go_sem] max2_int min2_int max_two min_two max_three min_three max_four min_four   -- for this text's walks alone
set_option linter.unusedVariables false
set_option linter.unusedSimpArgs false
attribute [local go_sem high] eqA59
theorem z12_8 {P : Prop} (h : P := by first | rfl | (simp; done) | (simp [*]; done)) : P := h
theorem z12_7 {P : Prop} (h : P := by repeat (first | exact Drawn0.refl _ | apply Drawn0.step)) : P := h
theorem z12_5 {P : Prop} (h : P := by first | (with_reducible assumption) | assumption) : P := h
theorem z12_9 {P : Prop} (h : P := by repeat (first | exact HR0.out | (with_reducible refine Kd.C_alloc ?_ _) | (with_reducible refine Kd.C_drewN ?_ _) | (with_reducible refine Kd.C_drew ?_))) : P := h
theorem z12_10 {P : Prop} (h : P := by repeat (first | exact HR1.out | (with_reducible refine Kd.C_alloc ?_ _) | (with_reducible refine Kd.C_drewN ?_ _) | (with_reducible refine Kd.C_drew ?_))) : P := h
mutual
def spec_KnowIn.j0 : Nat → List Int → List Int → Bool → Option (Bool)
  | 0, _, _, _ => none
  | k + 1, x0, x1, x13 => if x13 = true then (some false) else (spec_KnowIn.l0 k x0 x1 0)
def spec_KnowIn.l0 : Nat → List Int → List Int → Int → Option (Bool)
  | 0, _, _, _ => none
  | k + 1, x0, x1, x5 => if x5 < (x0.length : Int) then (if 0 ≤ x5 then (if x5 < (x1.length : Int) then (if (rd x0 x5) > (rd x1 x5) then (some false) else (spec_KnowIn.l0 k x0 x1 (wrap64 (x5 + 1)))) else (none)) else (none)) else (some true)
end


def spec_KnowIn.f (k : Nat) (l0 : List Int) (l1 : List Int) : Option (Bool) := (spec_KnowOk.f k l0).bind fun t219 => (if t219 = true then ((spec_KnowOk.f k l1).bind fun t220 => (spec_KnowIn.j0 k l0 l1 (!t220))) else (spec_KnowIn.j0 k l0 l1 true))
set_option maxHeartbeats 8000000 in
set_option maxRecDepth 100000 in
theorem spec_KnowIn.calls (k : Nat) (A0 : Option Addr) (c0 : Nat) (l0 : List Int) (A1 : Option Addr) (c1 : Nat) (l1 : List Int) (r : Bool) (w : World) (hr0 : Kd.C (Kd.int .i64) w A0 l0.length l0) (hc0 : l0.length ≤ c0) (hr1 : Kd.C (Kd.int .i64) w A1 l1.length l1) (hc1 : l1.length ≤ c1) (h : spec_KnowIn.f k l0 l1 = some r) :
  Calls Tryz.prog 49 #[.slice A0 l0.length c0, .slice A1 l1.length c1] w fun e w' => e = .returned (.bool r) ∧ Drawn0 w w' := by
 have HR0 := Aside0.mk hr0
 have HC0 := Aside0.mk hc0
 clear hr0 hc0
 have HR1 := Aside0.mk hr1
 have HC1 := Aside0.mk hc1
 clear hr1 hc1
 have H := h
 unfold spec_KnowIn.f at H
 clear h
 have HC3 := Aside0.mk H
 clear H
 go_enter Tryz.func49, Tryz.ntmps49
 go_upto_region 1 with (fail)
 repeat (go_quiet (fail); go_upto_region 1 with (fail))
 go_cut [13] (fun v13 wc => ∃ (kq : Nat) (x13_2 : Bool), v13 = .bool x13_2 ∧ Aside0 (spec_KnowIn.j0 kq l0 l1 x13_2 = some r) ∧ Aside0 (kq ≤ k) ∧ Drawn0 w wc)
 case first =>
  have H := HC3.out
  clear HC3
  replace H := Option.bind_eq_some_iff.mp H
  obtain ⟨t219, A40, H⟩ := H
  (try dsimp only at H)
  have A4 := Aside0.mk A40
  clear A40
  by_cases c5 : t219 = true
  rotate_left
  ·
   replace c5 := Bool.eq_false_iff.mpr c5
   subst c5
   rw [if_neg (show ¬ (false = true) by decide)] at H
   have H' := Aside0.mk H
   clear H
   go_wp2_with (first | (go_at_call 71; (with_reducible refine (spec_KnowOk.calls k _ _ l0 false _ ?side1 ?side2 A4.out).mono ?_); (case side1 => exact z12_9); (case side2 => exact HC0.out); rintro e w' ⟨rfl, ⟨nd, rfl⟩⟩; (try first | exact ⟨rfl, _, World.drewN_drewN _ _ _⟩ | exact ⟨rfl, _, Eq.trans (World.drewN_drewN _ _ _) (congrArg (World.drewN _) (Nat.add_assoc _ _ _))⟩)))
   repeat (go_quiet (first | (go_at_call 71; (with_reducible refine (spec_KnowOk.calls k _ _ l0 false _ ?side1 ?side2 A4.out).mono ?_); (case side1 => exact z12_9); (case side2 => exact HC0.out); rintro e w' ⟨rfl, ⟨nd, rfl⟩⟩; (try first | exact ⟨rfl, _, World.drewN_drewN _ _ _⟩ | exact ⟨rfl, _, Eq.trans (World.drewN_drewN _ _ _) (congrArg (World.drewN _) (Nat.add_assoc _ _ _))⟩))); try go_wp2_with (first | (go_at_call 71; (with_reducible refine (spec_KnowOk.calls k _ _ l0 false _ ?side1 ?side2 A4.out).mono ?_); (case side1 => exact z12_9); (case side2 => exact HC0.out); rintro e w' ⟨rfl, ⟨nd, rfl⟩⟩; (try first | exact ⟨rfl, _, World.drewN_drewN _ _ _⟩ | exact ⟨rfl, _, Eq.trans (World.drewN_drewN _ _ _) (congrArg (World.drewN _) (Nat.add_assoc _ _ _))⟩))))
   go_meet
   case rel => exact ⟨_, (true), z12_8, H', ⟨by first | omega | exact Nat.le_refl _⟩, z12_7⟩
  subst c5
  rw [if_pos rfl] at H
  replace H := Option.bind_eq_some_iff.mp H
  obtain ⟨t220, A60, H⟩ := H
  (try dsimp only at H)
  have A6 := Aside0.mk A60
  clear A60
  have H' := Aside0.mk H
  clear H
  go_wp2_with (first | (go_at_call 71; (with_reducible refine (spec_KnowOk.calls k _ _ l0 true _ ?side1 ?side2 A4.out).mono ?_); (case side1 => exact z12_9); (case side2 => exact HC0.out); rintro e w' ⟨rfl, ⟨nd, rfl⟩⟩; (try first | exact ⟨rfl, _, World.drewN_drewN _ _ _⟩ | exact ⟨rfl, _, Eq.trans (World.drewN_drewN _ _ _) (congrArg (World.drewN _) (Nat.add_assoc _ _ _))⟩)) | (go_at_call 71; (with_reducible refine (spec_KnowOk.calls k _ _ l1 t220 _ ?side1 ?side2 A6.out).mono ?_); (case side1 => exact z12_10); (case side2 => exact HC1.out); rintro e w' ⟨rfl, ⟨nd, rfl⟩⟩; (try first | exact ⟨rfl, _, World.drewN_drewN _ _ _⟩ | exact ⟨rfl, _, Eq.trans (World.drewN_drewN _ _ _) (congrArg (World.drewN _) (Nat.add_assoc _ _ _))⟩)))
  repeat (go_quiet (first | (go_at_call 71; (with_reducible refine (spec_KnowOk.calls k _ _ l0 true _ ?side1 ?side2 A4.out).mono ?_); (case side1 => exact z12_9); (case side2 => exact HC0.out); rintro e w' ⟨rfl, ⟨nd, rfl⟩⟩; (try first | exact ⟨rfl, _, World.drewN_drewN _ _ _⟩ | exact ⟨rfl, _, Eq.trans (World.drewN_drewN _ _ _) (congrArg (World.drewN _) (Nat.add_assoc _ _ _))⟩)) | (go_at_call 71; (with_reducible refine (spec_KnowOk.calls k _ _ l1 t220 _ ?side1 ?side2 A6.out).mono ?_); (case side1 => exact z12_10); (case side2 => exact HC1.out); rintro e w' ⟨rfl, ⟨nd, rfl⟩⟩; (try first | exact ⟨rfl, _, World.drewN_drewN _ _ _⟩ | exact ⟨rfl, _, Eq.trans (World.drewN_drewN _ _ _) (congrArg (World.drewN _) (Nat.add_assoc _ _ _))⟩))); try go_wp2_with (first | (go_at_call 71; (with_reducible refine (spec_KnowOk.calls k _ _ l0 true _ ?side1 ?side2 A4.out).mono ?_); (case side1 => exact z12_9); (case side2 => exact HC0.out); rintro e w' ⟨rfl, ⟨nd, rfl⟩⟩; (try first | exact ⟨rfl, _, World.drewN_drewN _ _ _⟩ | exact ⟨rfl, _, Eq.trans (World.drewN_drewN _ _ _) (congrArg (World.drewN _) (Nat.add_assoc _ _ _))⟩)) | (go_at_call 71; (with_reducible refine (spec_KnowOk.calls k _ _ l1 t220 _ ?side1 ?side2 A6.out).mono ?_); (case side1 => exact z12_10); (case side2 => exact HC1.out); rintro e w' ⟨rfl, ⟨nd, rfl⟩⟩; (try first | exact ⟨rfl, _, World.drewN_drewN _ _ _⟩ | exact ⟨rfl, _, Eq.trans (World.drewN_drewN _ _ _) (congrArg (World.drewN _) (Nat.add_assoc _ _ _))⟩))))
  go_meet
  case rel => exact ⟨_, (!t220), z12_8, H', ⟨by first | omega | exact Nat.le_refl _⟩, z12_7⟩
 case rest =>
  clear HC3
  try clear c1
  try clear p2
  try clear c4
  try clear c5
  obtain ⟨kq, x13_2, rfl, HA, HJ2, ⟨mc2, rfl⟩⟩ := hcut
  cases kq with
  | zero => exact absurd HA.out (by simp [spec_KnowIn.j0])
  | succ kj2 =>
   have H := HA.out
   clear HA
   simp only [spec_KnowIn.j0] at H
   by_cases c7 : x13_2 = true
   ·
    subst c7
    rw [if_pos rfl] at H
    obtain rfl := Option.some.inj H
    go_wp2
    repeat (go_quiet (fail); try go_wp2)
    go_ret
    exact ⟨z12_8, z12_7⟩
   replace c7 := Bool.eq_false_iff.mpr c7
   subst c7
   rw [if_neg (show ¬ (false = true) by decide)] at H
   have H' := Aside0.mk H
   clear H
   go_wp2
   repeat (go_quiet (fail); try go_wp2)
   go_loopg [5] kj2 (fun kq v5 w' => ∃ (x5_2 : Int), v5 = .int .i64 x5_2 ∧ Aside0 (spec_KnowIn.l0 kq l0 l1 x5_2 = some r) ∧ Aside0 (kq ≤ kj2) ∧ Drawn0 w w')
   case atStart => exact ⟨(0), z12_8, H', ⟨Nat.le_refl _⟩, z12_7⟩
   case round =>
    clear H'
    try clear c1
    try clear c2
    try clear p2
    try clear c4
    try clear c5
    try clear c7
    try clear p2
    obtain ⟨x5_2, rfl, HA, HK2, ⟨m2, rfl⟩⟩ := hrel
    cases gk with
    | zero => exact absurd HA.out (by simp [spec_KnowIn.l0])
    | succ k2 =>
     have H := HA.out
     clear HA
     simp only [spec_KnowIn.l0] at H
     by_cases c8 : x5_2 < (l0.length : Int)
     rotate_left
     ·
      rw [if_neg c8] at H
      have c8b0 : decide (x5_2 < (l0.length : Int)) = false := decide_eq_false c8
      clear c8
      obtain rfl := Option.some.inj H
      go_wp2
      repeat (go_quiet (fail); try go_wp2)
      go_ret
      exact ⟨z12_8, z12_7⟩
     rw [if_pos c8] at H
     have c8b0 : decide (x5_2 < (l0.length : Int)) = true := decide_eq_true c8
     clear c8
     by_cases c9 : 0 ≤ x5_2
     rotate_left
     ·
      rw [if_neg c9] at H
      exact absurd H (by simp)
     rw [if_pos c9] at H
     have c9b0 : decide (0 ≤ x5_2) = true := decide_eq_true c9
     clear c9
     by_cases c10 : x5_2 < (l1.length : Int)
     rotate_left
     ·
      rw [if_neg c10] at H
      exact absurd H (by simp)
     rw [if_pos c10] at H
     have c10b0 : decide (x5_2 < (l1.length : Int)) = true := decide_eq_true c10
     clear c10
     by_cases c11 : (rd l0 x5_2) > (rd l1 x5_2)
     ·
      rw [if_pos c11] at H
      have c11b0 : decide ((rd l1 x5_2) < (rd l0 x5_2)) = true := decide_eq_true c11
      clear c11
      obtain rfl := Option.some.inj H
      have p221 : 0 ≤ (x5_2 : Int) := of_decide_eq_true z12_5
      have q221 : x5_2 < (l0.length : Int) := of_decide_eq_true z12_5
      obtain ⟨ad221, e221, hx221_0⟩ := Kd.at_int HR0.out x5_2 p221 q221
      cases e221
      replace p221 := eq_true p221
      replace q221 := eq_true q221
      have p222 : 0 ≤ (x5_2 : Int) := of_decide_eq_true z12_5
      have q222 : x5_2 < (l1.length : Int) := of_decide_eq_true z12_5
      obtain ⟨ad222, e222, hx222_0⟩ := Kd.at_int HR1.out x5_2 p222 q222
      cases e222
      replace p222 := eq_true p222
      replace q222 := eq_true q222
      go_wp2
      repeat (go_quiet (fail); try go_wp2)
      go_ret
      exact ⟨z12_8, z12_7⟩
     rw [if_neg c11] at H
     have c11b0 : decide ((rd l1 x5_2) < (rd l0 x5_2)) = false := decide_eq_false c11
     clear c11
     have H' := Aside0.mk H
     clear H
     have p221 : 0 ≤ (x5_2 : Int) := of_decide_eq_true z12_5
     have q221 : x5_2 < (l0.length : Int) := of_decide_eq_true z12_5
     obtain ⟨ad221, e221, hx221_0⟩ := Kd.at_int HR0.out x5_2 p221 q221
     cases e221
     replace p221 := eq_true p221
     replace q221 := eq_true q221
     have p222 : 0 ≤ (x5_2 : Int) := of_decide_eq_true z12_5
     have q222 : x5_2 < (l1.length : Int) := of_decide_eq_true z12_5
     obtain ⟨ad222, e222, hx222_0⟩ := Kd.at_int HR1.out x5_2 p222 q222
     cases e222
     replace p222 := eq_true p222
     replace q222 := eq_true q222
     go_wp2
     repeat (go_quiet (fail); try go_wp2)
     go_roundg k2
     case measure => have := HJ2.out; have := HK2.out; omega
     case rel => exact ⟨(wrap64 (x5_2 + 1)), z12_8, H', ⟨by have := HJ2.out; have := HK2.out; omega⟩, z12_7⟩
def spec_l07Ref.f (k : Nat) (l0_0 : List Int) (l0_1 : List (S90)) (l0_2 : List (S93)) (l0_3 : List (S96)) (a1_0 : Int) (a1_1 : Int) (a1_2 : Int) (l1_3 : List Int) (a1_4 : Int) (a1_5 : ByteArray) (a1_6 : ByteArray) (a1_7 : Int) (a1_8 : Int) (a1_9 : Int) : Option (Bool) := if a1_4 = 7 then ((spec_CellAt.f k l0_0 l0_1 l0_2 l0_3 a1_8 a1_9).bind fun t225 => (if t225 ≥ 0 then (if 0 ≤ t225 then (if t225 < (l0_3.length : Int) then (if ((rd_T96 l0_3 t225).f0).toList = a1_5.toList then (some true) else (some false)) else (none)) else (none)) else (some false))) else (if a1_4 = 6 then (if (a1_8 == 0 && (a1_9 == 0)) = true then (some true) else ((spec_CellAt.f k l0_0 l0_1 l0_2 l0_3 a1_8 a1_9).bind fun t227 => (if t227 ≥ 0 then (if 0 ≤ t227 then (if t227 < (l0_3.length : Int) then (if ((rd_T96 l0_3 t227).f0).toList = a1_5.toList then (some (decide (((rd_T96 l0_3 t227).f2) < a1_2))) else (some false)) else (none)) else (none)) else (some false)))) else (some true))
set_option maxHeartbeats 8000000 in
set_option maxRecDepth 100000 in
theorem spec_l07Ref.calls (k : Nat) (A0_0 : Option Addr) (c0_0 : Nat) (l0_0 : List Int) (A0_1 : Option Addr) (c0_1 : Nat) (l0_1 : List (S90)) (A0_2 : Option Addr) (c0_2 : Nat) (l0_2 : List (S93)) (A0_3 : Option Addr) (c0_3 : Nat) (l0_3 : List (S96)) (a1_0 : Int) (a1_1 : Int) (a1_2 : Int) (A1_3 : Option Addr) (c1_3 : Nat) (l1_3 : List Int) (a1_4 : Int) (a1_5 : ByteArray) (a1_6 : ByteArray) (a1_7 : Int) (a1_8 : Int) (a1_9 : Int) (r : Bool) (w : World) (hr0_0 : Kd.C (Kd.int .i64) w A0_0 l0_0.length l0_0) (hc0_0 : l0_0.length ≤ c0_0) (hr0_1 : Kd.C k90 w A0_1 l0_1.length l0_1) (hc0_1 : l0_1.length ≤ c0_1) (hr0_2 : Kd.C k93 w A0_2 l0_2.length l0_2) (hc0_2 : l0_2.length ≤ c0_2) (hr0_3 : Kd.C k96 w A0_3 l0_3.length l0_3) (hc0_3 : l0_3.length ≤ c0_3) (hr1_3 : Kd.C (Kd.int .i64) w A1_3 l1_3.length l1_3) (hc1_3 : l1_3.length ≤ c1_3) (h : spec_l07Ref.f k l0_0 l0_1 l0_2 l0_3 a1_0 a1_1 a1_2 l1_3 a1_4 a1_5 a1_6 a1_7 a1_8 a1_9 = some r) :
  Calls Tryz.prog 50 #[.agg #[.slice A0_0 l0_0.length c0_0, .slice A0_1 l0_1.length c0_1, .slice A0_2 l0_2.length c0_2, .slice A0_3 l0_3.length c0_3], .agg #[.int .i64 a1_0, .int .i64 a1_1, .int .i64 a1_2, .slice A1_3 l1_3.length c1_3, .int .i64 a1_4, .string a1_5, .string a1_6, .int .i64 a1_7, .int .i64 a1_8, .int .i64 a1_9]] w fun e w' => e = .returned (.bool r) ∧ Below w.heap.size w w' := by
 have hu35 := Tryz.underlying35
 have hu61 := Tryz.underlying61
 have hu59 := Tryz.underlying59
 have HR0_0 := Aside0.mk hr0_0
 have HC0_0 := Aside0.mk hc0_0
 clear hr0_0 hc0_0
 have HR0_1 := Aside0.mk hr0_1
 have HC0_1 := Aside0.mk hc0_1
 clear hr0_1 hc0_1
 have HR0_2 := Aside0.mk hr0_2
 have HC0_2 := Aside0.mk hc0_2
 clear hr0_2 hc0_2
 have HR0_3 := Aside0.mk hr0_3
 have HC0_3 := Aside0.mk hc0_3
 clear hr0_3 hc0_3
 have HR1_3 := Aside0.mk hr1_3
 have HC1_3 := Aside0.mk hc1_3
 clear hr1_3 hc1_3
 have HB := Aside0.mk (Below.refl w.heap.size w)
 have H := h
 clear h
 unfold spec_l07Ref.f at H
 repeat' (first
  | ((with_reducible refine none_o H); done)
  | ((with_reducible replace H := elo_ (at_T96 HR0_3.out _) H); obtain ⟨ad, e, hx, ⟨_, _, _, _⟩, H⟩ := H; cases e)
  | ((with_reducible replace H := ite_t (by with_reducible assumption) H))
  | ((with_reducible replace H := ite_f (by with_reducible assumption) H))
  | ((with_reducible replace H := ite_lt H); rcases H with ⟨c1, H⟩ | ⟨c1, H⟩)
  | ((with_reducible replace H := ite_le H); rcases H with ⟨c1, H⟩ | ⟨c1, H⟩)
  | ((with_reducible replace H := ite_b H); rcases H with ⟨c1, H⟩ | ⟨c1, H⟩ <;> (fail_if_success subst c1))
  | ((with_reducible replace H := ite_ei H); rcases H with ⟨c1, H⟩ | ⟨c1, H⟩)
  | ((with_reducible replace H := ite_es H); rcases H with ⟨c1, H⟩ | ⟨c1, H⟩)
  | ((with_reducible replace H := bind_s H); (try dsimp only at H))
  | ((with_reducible replace H := bind_o H); obtain ⟨t, A, H⟩ := H; (try dsimp only at H))
  | ((with_reducible replace H := ite_b H); rcases H with ⟨rfl, H⟩ | ⟨rfl, H⟩))
 all_goals
  obtain rfl := Option.some.inj H
  go_enter Tryz.func50, Tryz.ntmps50
  go_wp2_with (first
    | ((with_reducible refine gate_dst (N := 2) rfl ?_); refine bx_ (N := 2) ?_; intro g hg w1 hbox hb; have BK := Aside0.mk hbox; have GE := gw_ w zB hg; replace HB := Aside0.mk (below_step zB hb); clear hb hbox hg; have hcz := bc4 BK.out)
    | ((with_reducible refine gate_dst (N := 3) rfl ?_); refine bx_ (N := 3) ?_; intro g2 hg w1 hbox hb; have BK2 := Aside0.mk hbox; have GE2 := gw_ w zB hg; replace HB := Aside0.mk (below_step zB hb); have NB := nb_ BK zKf hg; have NB' := nc_ BK zKf hg; replace BK := bb_ BK zKf hb; clear hb hbox hg; have hcz2 := bc10 BK2.out; have hn := NB.out; have hn' := NB'.out; have hcz := bc4 BK.out)
    | (go_at_call 75; (with_reducible refine (spec_CellAt.calls _ _ _ _ _ _ _ _ _ _ _ _ _ _ _ _ _ zC zL zC zL zC zL zC zL zA).mono ?_); rintro e w' ⟨rfl, hb⟩; replace BK := bb_ BK zKf hb; replace BK2 := bb_ BK2 zKf2 hb; have hcz := bc4 BK.out; have hcz2 := bc10 BK2.out; replace HB := Aside0.mk (below_step zB hb); clear hb; (try have hx := cb8 HB.out hx)))
  repeat (go_quiet (fail); try go_wp2_with (first
    | ((with_reducible refine gate_dst (N := 2) rfl ?_); refine bx_ (N := 2) ?_; intro g hg w1 hbox hb; have BK := Aside0.mk hbox; have GE := gw_ w zB hg; replace HB := Aside0.mk (below_step zB hb); clear hb hbox hg; have hcz := bc4 BK.out)
    | ((with_reducible refine gate_dst (N := 3) rfl ?_); refine bx_ (N := 3) ?_; intro g2 hg w1 hbox hb; have BK2 := Aside0.mk hbox; have GE2 := gw_ w zB hg; replace HB := Aside0.mk (below_step zB hb); have NB := nb_ BK zKf hg; have NB' := nc_ BK zKf hg; replace BK := bb_ BK zKf hb; clear hb hbox hg; have hcz2 := bc10 BK2.out; have hn := NB.out; have hn' := NB'.out; have hcz := bc4 BK.out)
    | (go_at_call 75; (with_reducible refine (spec_CellAt.calls _ _ _ _ _ _ _ _ _ _ _ _ _ _ _ _ _ zC zL zC zL zC zL zC zL zA).mono ?_); rintro e w' ⟨rfl, hb⟩; replace BK := bb_ BK zKf hb; replace BK2 := bb_ BK2 zKf2 hb; have hcz := bc4 BK.out; have hcz2 := bc10 BK2.out; replace HB := Aside0.mk (below_step zB hb); clear hb; (try have hx := cb8 HB.out hx))))
  go_ret
  exact ⟨zT, zB⟩
end Go.Proofs.YtbanogkoaplcdaaGreat.QDa
