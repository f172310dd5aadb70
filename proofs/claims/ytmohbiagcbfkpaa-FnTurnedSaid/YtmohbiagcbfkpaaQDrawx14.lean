/- What the functions behind Draw compute, and that the program's calls come to just that. Written by a program of this session on the base of the kit's print. No condition. -/
import Derived.Test.YtmohbiagcbfkpaaQDrawx0
import Derived.Test.YtmohbiagcbfkpaaConv
import Derived.Test.YtmohbiagcbfkpaaQDrawx3
import Derived.Test.YtmohbiagcbfkpaaQDrawx13
namespace Go.Proofs.Ytmohbiagcbfkpaa.QDraw
open Go.RowKit Go.Proofs.YtmohbiagcbfkpaaW.PrintWords Go.Proofs.YtmohbiagcbfkpaaW.PrintLast Go.Proofs.YtmohbiagcbfkpaaW.PrintMore
attribute [local go_sem] max2_int min2_int max_two min_two max_three min_three max_four min_four   -- for this text's walks alone
set_option linter.unusedVariables false
set_option linter.unusedSimpArgs false

theorem z14_7 {P : Prop} (h : P := by first | rfl | (simp; done) | (simp [*]; done)) : P := h
theorem z14_6 {P : Prop} (h : P := by kernel_rfl) : P := h
theorem z14_5 {P : Prop} (h : P := by first | (with_reducible assumption) | assumption) : P := h
theorem z14_4 {P : Prop} (h : P := by intro w'; go_simp; with_reducible rfl) : P := h
theorem z14_3 {P : Prop} (h : P := by (with_reducible repeat (first | apply Kd.R_alloc | apply Kd.R_drewN | apply Kd.R_drew)); exact HO625.out) : P := h
theorem z14_2 {P : Prop} (h : P := by first | rfl | (simp only [List.map_toArray, List.map_cons, List.map_nil]; first | done | rfl)) : P := h
theorem z14_1 {P : Prop} (h : P := by simp only [Act.put, List.setIfInBounds_toArray, List.set_cons_zero, List.set_cons_succ, i64_w, i32_w]; rfl) : P := h
theorem z14_0 {P : Prop} (h : P := by repeat (first | (with_reducible first | exact HB.out | apply below_alloc | apply pw_below_drewN | apply below_drew1) | exact HB.out)) : P := h

/-! ### laws_FnTurned: function 11 -/
def laws_FnTurned.j0 : Nat → ByteArray → List Int → ByteArray → Bool → Option (Bool)
  | 0, _, _, _, _ => none
  | k + 1, x3, x4, x5, x47 => if x47 = true then (some false) else ((some (bytesOf x5 : List Int)).bind fun y630 => (if 0 < (x4.length : Int) then (if (y630.length : Int) = 0 then (none) else (if 0 ≤ (Int.tmod (rd x4 0) (y630.length : Int)) then (if (Int.tmod (rd x4 0) (y630.length : Int)) < (y630.length : Int) then (if 1 < (x4.length : Int) then ((impl_Unsealed.f k (strOfNums (y630.set ((Int.tmod (rd x4 0) (y630.length : Int)) : Int).toNat (Go.bits .xor .u8 (rd y630 (Int.tmod (rd x4 0) (y630.length : Int))) ((wrap64 (1 + (Int.tmod (rd x4 1) 255))) % 256))))).bind fun bt637 => (if bt637.2 = true then (some false) else ((impl_SumOf.f k x3).bind fun t639 => ((impl_SumMore.f k t639 (⟨#[120]⟩ : ByteArray)).bind fun t640 => (if x3.size + 1 ≤ 9223372036854775807 then ((impl_SumOf.f k (x3 ++ (⟨#[120]⟩ : ByteArray))).bind fun t641 => (some (t640 == t641))) else (none)))))) else (none)) else (none)) else (none))) else (none)))
def laws_FnTurned.f (k : Nat) (l0 : List Int) : Option (Bool) := (laws_big.f l0).bind fun t621 => (if t621 = true then (some true) else ((spec_DrawSumOf.f k l0).bind fun t622 => ((spec_DrawPlaces.f k l0).bind fun t623 => ((impl_Sealed.f k t622).bind fun bt626 => ((impl_Unsealed.f k bt626.1).bind fun bt628 => (if bt626.2 = true then (if bt628.2 = true then (if bt628.1.toList = t622.toList then (laws_FnTurned.j0 k t622 t623 bt626.1 ((bt626.1.size : Int) != (wrap64 ((t622.size : Int) + 4)))) else (laws_FnTurned.j0 k t622 t623 bt626.1 true)) else (laws_FnTurned.j0 k t622 t623 bt626.1 true)) else (laws_FnTurned.j0 k t622 t623 bt626.1 true)))))))
theorem laws_FnTurned.mono_l : ∀ k, (∀ y0 y1 y2 y3, LeO (laws_FnTurned.j0 k y0 y1 y2 y3) (laws_FnTurned.j0 (k + 1) y0 y1 y2 y3))
 | 0 => fun _ _ _ _ r h => by simp [laws_FnTurned.j0] at h
 | k + 1 => by
  have ih0 := laws_FnTurned.mono_l k
  ·
   intro y0 y1 y2 y3
   unfold laws_FnTurned.j0
   repeat' first
   | (with_reducible exact ih0 _ _ _ _)
   | (with_reducible exact impl_Sealed.mono _ _)
   | (with_reducible exact impl_SumMore.mono _ _ _)
   | (with_reducible exact impl_SumOf.mono _ _)
   | (with_reducible exact impl_Unsealed.mono _ _)
   | (with_reducible exact spec_DrawPlaces.mono _ _)
   | (with_reducible exact spec_DrawSumOf.mono _ _)
   | (with_reducible exact LeO.refl _)
   | (with_reducible exact LeO.none _)
   | (with_reducible refine LeO.ite ?_ ?_)
   | (with_reducible refine LeO.bind ?_ (fun _ => ?_))
   | exact ih0 _ _ _ _
   | exact impl_Sealed.mono _ _
   | exact impl_SumMore.mono _ _ _
   | exact impl_SumOf.mono _ _
   | exact impl_Unsealed.mono _ _
   | exact spec_DrawPlaces.mono _ _
   | exact spec_DrawSumOf.mono _ _
   | exact LeO.none _
   | refine LeO.ite ?_ ?_
   | refine LeO.bind ?_ (fun _ => ?_)
theorem laws_FnTurned.mono : ∀ a0 k, LeO (laws_FnTurned.f k a0) (laws_FnTurned.f (k + 1) a0) := by
 intro a0 k
 have ih0 := laws_FnTurned.mono_l k
 unfold laws_FnTurned.f
 repeat' first
   | (with_reducible exact ih0 _ _ _ _)
   | (with_reducible exact impl_Sealed.mono _ _)
   | (with_reducible exact impl_SumMore.mono _ _ _)
   | (with_reducible exact impl_SumOf.mono _ _)
   | (with_reducible exact impl_Unsealed.mono _ _)
   | (with_reducible exact spec_DrawPlaces.mono _ _)
   | (with_reducible exact spec_DrawSumOf.mono _ _)
   | (with_reducible exact LeO.refl _)
   | (with_reducible exact LeO.none _)
   | (with_reducible refine LeO.ite ?_ ?_)
   | (with_reducible refine LeO.bind ?_ (fun _ => ?_))
   | exact ih0 _ _ _ _
   | exact impl_Sealed.mono _ _
   | exact impl_SumMore.mono _ _ _
   | exact impl_SumOf.mono _ _
   | exact impl_Unsealed.mono _ _
   | exact spec_DrawPlaces.mono _ _
   | exact spec_DrawSumOf.mono _ _
   | exact LeO.none _
   | refine LeO.ite ?_ ?_
   | refine LeO.bind ?_ (fun _ => ?_)
def laws_FnTurned.T11 : Bool × List (List Nat × List Nat) := (true, [([], []), ([], []), ([], []), ([], []), ([2, 3], [2, 3]), ([4], [4]), ([], []), ([6], [6]), ([7], [7]), ([8], [8]), ([9], [9]), ([10], [10]), ([5, 11], [5, 11]), ([0, 1, 0, 1, 2, 3, 4, 5, 6, 7, 8, 9, 10, 11, 12], [0, 1]), ([13, 12, 0, 1, 2, 3, 4, 5, 6, 7, 8, 9, 10, 11, 12], [12, 13])])
def laws_FnTurned.B11 : List Nat := [0, 0, 0, 0, 12, 28, 0, 64, 192, 448, 960, 1984, 4092, 8191, 16383]
theorem laws_FnTurned.tab11 : rtab .any (opsOf Try.f11 11) = laws_FnTurned.T11 := by kernel_rfl
theorem laws_FnTurned.bits11 : waitsOk laws_FnTurned.T11.2 laws_FnTurned.B11 = true := by kernel_rfl
set_option maxHeartbeats 8000000 in
set_option maxRecDepth 100000 in
theorem laws_FnTurned.calls_true (k : Nat) (A0 : Option Addr) (c0 : Nat) (l0 : List Int) (w : World) (hr0 : Kd.C (Kd.int .u8) w A0 l0.length l0) (hc0 : l0.length ≤ c0) (h : laws_FnTurned.f k l0 = some true) :
  Calls Try.prog 11 #[.slice A0 l0.length c0] w fun e w' => e = .returned (.bool true) ∧ Below w.heap.size w w' := by
 have HR0 := Aside0.mk hr0
 have HC0 := Aside0.mk hc0
 clear hr0 hc0
 have HB := Aside0.mk (Below.refl w.heap.size w)
 have H : ((laws_big.f l0).bind fun t621 => (if t621 = true then (some true) else ((spec_DrawSumOf.f k l0).bind fun t622 => ((spec_DrawPlaces.f k l0).bind fun t623 => ((impl_Sealed.f k t622).bind fun bt626 => ((impl_Unsealed.f k bt626.1).bind fun bt628 => (if bt626.2 = true then (if bt628.2 = true then (if bt628.1.toList = t622.toList then (laws_FnTurned.j0 k t622 t623 bt626.1 ((bt626.1.size : Int) != (wrap64 ((t622.size : Int) + 4)))) else (laws_FnTurned.j0 k t622 t623 bt626.1 true)) else (laws_FnTurned.j0 k t622 t623 bt626.1 true)) else (laws_FnTurned.j0 k t622 t623 bt626.1 true)))))))) = some true := h
 clear h
 replace H := Option.bind_eq_some_iff.mp H
 obtain ⟨t621, A20, H⟩ := H
 (try dsimp only at H)
 have A2 := Aside0.mk A20
 clear A20
 by_cases c3 : t621 = true
 ·
  subst c3
  have H1 : (some true) = some true := rfl
  clear H
  have H := H1
  clear H1
  clear H
  go_enter Try.func11, Try.ntmps11
  go_wp2_with (first | ((with_reducible refine gate_callee (f := 43) rfl ?_); refine goesL_ (some 14) rfl rfl Try.func43 z14_6 rfl #[.slice A0 l0.length c0] rfl z14_2 ?_; (with_reducible refine (laws_big.calls _ _ l0 true _ ?side1 ?side2 A2.out).mono ?_); (case side1 => repeat (first | exact HR0.out | (with_reducible refine Kd.C_alloc ?_ _) | (with_reducible refine Kd.C_drewN ?_ _) | (with_reducible refine Kd.C_drew ?_))); (case side2 => exact HC0.out); rintro e w' ⟨rfl, ⟨nd, rfl⟩⟩; refine ⟨_, rfl, ?_⟩))
  go_ret
  exact ⟨by first | rfl | (simp [errW_none, errW_some] <;> rfl) | (simp [*, errW_none, errW_some] <;> rfl), z14_0⟩
 ·
  replace c3 := Bool.eq_false_iff.mpr c3
  subst c3
  rw [if_neg (show ¬ (false = true) by decide)] at H
  replace H := Option.bind_eq_some_iff.mp H
  obtain ⟨t622, A40, H⟩ := H
  (try dsimp only at H)
  have A4 := Aside0.mk A40
  clear A40
  replace H := Option.bind_eq_some_iff.mp H
  obtain ⟨t623, A50, H⟩ := H
  (try dsimp only at H)
  have A5 := Aside0.mk A50
  clear A50
  replace H := Option.bind_eq_some_iff.mp H
  obtain ⟨⟨t626, t627⟩, A60, H⟩ := H
  (try dsimp only at H)
  have A6 := Aside0.mk A60
  clear A60
  replace H := Option.bind_eq_some_iff.mp H
  obtain ⟨⟨t628, t629⟩, A70, H⟩ := H
  (try dsimp only at H)
  have A7 := Aside0.mk A70
  clear A70
  have HC8 := Aside0.mk H
  clear H
  go_enter Try.func11, Try.ntmps11
  go_upto_region 7 with (first | ((with_reducible refine gate_callee (f := 43) rfl ?_); refine goesL_ (some 14) rfl rfl Try.func43 z14_6 rfl #[.slice A0 l0.length c0] rfl z14_2 ?_; (with_reducible refine (laws_big.calls _ _ l0 false _ ?side1 ?side2 A2.out).mono ?_); (case side1 => repeat (first | exact HR0.out | (with_reducible refine Kd.C_alloc ?_ _) | (with_reducible refine Kd.C_drewN ?_ _) | (with_reducible refine Kd.C_drew ?_))); (case side2 => exact HC0.out); rintro e w' ⟨rfl, ⟨nd, rfl⟩⟩; refine ⟨_, rfl, ?_⟩) | ((with_reducible refine gate_callee (f := 44) rfl ?_); refine goesL_ (some 16) rfl rfl Try.func44 z14_6 rfl #[.slice A0 l0.length c0] rfl z14_2 ?_; (with_reducible refine (spec_DrawSumOf.calls k _ _ l0 t622 _ ?side1 ?side2 A4.out).mono ?_); (case side1 => repeat (first | exact HR0.out | (with_reducible refine Kd.C_alloc ?_ _) | (with_reducible refine Kd.C_drewN ?_ _) | (with_reducible refine Kd.C_drew ?_))); (case side2 => exact HC0.out); rintro e w9 ⟨rfl, hb⟩; refine ⟨_, rfl, ?_⟩; have n0_ := Aside0.mk (below_step z14_0 hb); clear HB; have HB := n0_; clear n0_) | ((with_reducible refine gate_callee (f := 45) rfl ?_); refine goesL_ (some 18) rfl rfl Try.func45 z14_6 rfl #[.slice A0 l0.length c0] rfl z14_2 ?_; (with_reducible refine (spec_DrawPlaces.calls k _ _ l0 t623 _ ?side1 ?side2 A5.out).mono ?_); (case side1 => repeat (first | exact (Kd.C_below HR0.out HB.out) | (with_reducible refine Kd.C_alloc ?_ _) | (with_reducible refine Kd.C_drewN ?_ _) | (with_reducible refine Kd.C_drew ?_))); (case side2 => exact HC0.out); rintro e w10 ⟨v624, rfl, ho0, hb⟩; refine ⟨_, rfl, ?_⟩; have n0_ := Aside0.mk (Kd.R_lower ho0 (below_size z14_0)); have n1_ := Aside0.mk (below_step z14_0 hb); clear HB; have HO625 := n0_; have HB := n1_; clear n0_ n1_; (try clear ho0)) | ((with_reducible refine gate_callee (f := 46) rfl ?_); refine goesL_ (some 21) rfl rfl Try.func46 z14_6 rfl #[.string t622] rfl z14_2 ?_; (with_reducible refine (impl_Sealed.calls k t622 t626 t627 _ A6.out).mono ?_); rintro e w11 ⟨rfl, hb⟩; refine ⟨_, rfl, ?_⟩; have n0_ := Aside0.mk (Kd.R_below z14_3 hb); have n1_ := Aside0.mk (below_step z14_0 hb); clear HO625; clear HB; have HO625 := n0_; have HB := n1_; clear n0_ n1_) | ((with_reducible refine gate_callee (f := 47) rfl ?_); refine goesL_ (some 26) rfl rfl Try.func47 z14_6 rfl #[.string t626] rfl z14_2 ?_; (with_reducible refine (impl_Unsealed.calls k t626 t628 t629 _ A7.out).mono ?_); rintro e w12 ⟨rfl, hb⟩; refine ⟨_, rfl, ?_⟩; have n0_ := Aside0.mk (Kd.R_below z14_3 hb); have n1_ := Aside0.mk (below_step z14_0 hb); clear HO625; clear HB; have HO625 := n0_; have HB := n1_; clear n0_ n1_))
  (try simp only [Act.put, List.setIfInBounds_toArray, List.set_cons_zero, List.set_cons_succ])
  go_cut [47] (fun v47 wc => ∃ (kq : Nat) (x47_7 : Bool), v47 = .bool x47_7 ∧ Aside0 (laws_FnTurned.j0 kq t622 t623 t626 x47_7 = some true) ∧ Aside0 (kq ≤ k) ∧ Aside0 (Kd.R (Kd.int .i64) 3 wc w.heap.size (fun _ => True) v624 t623) ∧ Aside0 (Below w.heap.size w wc))
  case first =>
   have H := HC8.out
   clear HC8
   by_cases c13 : t627 = true
   ·
    subst c13
    rw [if_pos rfl] at H
    by_cases c14 : t629 = true
    ·
     subst c14
     rw [if_pos rfl] at H
     by_cases c15 : t628.toList = t622.toList
     ·
      rw [if_pos c15] at H
      have c15b0 : (t628.toList == t622.toList) = true := beq_iff_eq.mpr c15
      have c15b1 : (t628.toList != t622.toList) = false := bne_eq_false_iff_eq.mpr c15
      clear c15
      (first | rw [c15b0] | (simp only [i64_w, i32_w]; rw [c15b0]) | skip)
      have H' := Aside0.mk H
      clear H
      go_wp2
      go_meet
      case rel => exact ⟨_, (((t626.size : Int) != (wrap64 ((t622.size : Int) + 4)))), z14_7, H', ⟨by first | omega | exact Nat.le_refl _⟩, ⟨z14_3⟩, ⟨z14_0⟩⟩
     ·
      rw [if_neg c15] at H
      have c15b0 : (t628.toList == t622.toList) = false := beq_eq_false_iff_ne.mpr c15
      have c15b1 : (t628.toList != t622.toList) = true := bne_iff_ne.mpr c15
      (first | rw [c15b0] | (simp only [i64_w, i32_w]; rw [c15b0]) | skip)
      have H' := Aside0.mk H
      clear H
      go_wp2
      go_meet
      case rel => exact ⟨_, (true), z14_7, H', ⟨by first | omega | exact Nat.le_refl _⟩, ⟨z14_3⟩, ⟨z14_0⟩⟩
    ·
     replace c14 := Bool.eq_false_iff.mpr c14
     subst c14
     rw [if_neg (show ¬ (false = true) by decide)] at H
     have H' := Aside0.mk H
     clear H
     go_wp2
     go_meet
     case rel => exact ⟨_, (true), z14_7, H', ⟨by first | omega | exact Nat.le_refl _⟩, ⟨z14_3⟩, ⟨z14_0⟩⟩
   ·
    replace c13 := Bool.eq_false_iff.mpr c13
    subst c13
    rw [if_neg (show ¬ (false = true) by decide)] at H
    have H' := Aside0.mk H
    clear H
    go_wp2
    go_meet
    case rel => exact ⟨_, (true), z14_7, H', ⟨by first | omega | exact Nat.le_refl _⟩, ⟨z14_3⟩, ⟨z14_0⟩⟩
  case rest =>
   clear HC8
   try clear c1
   try clear p2
   try clear c3
   try clear c4
   try clear p6
   try clear c11
   try clear c13
   try clear c14
   try clear c15
   try clear c15b0
   try clear c15b1
   obtain ⟨kq, x47_7, rfl, HA, HJ7, HO_4, HB⟩ := hcut
   cases kq with
   | zero => exact absurd HA.out (by simp [laws_FnTurned.j0])
   | succ kj7 =>
    have H := HA.out
    clear HA
    simp only [laws_FnTurned.j0] at H
    by_cases c16 : x47_7 = true
    ·
     subst c16
     rw [if_pos rfl] at H
     exact absurd H (by simp)
    ·
     replace c16 := Bool.eq_false_iff.mpr c16
     subst c16
     rw [if_neg (show ¬ (false = true) by decide)] at H
     obtain ⟨y630, hy630⟩ : ∃ y_ : List Int, y_ = (bytesOf t626) := ⟨_, rfl⟩
     replace H : (if 0 < (t623.length : Int) then (if (y630.length : Int) = 0 then (none) else (if 0 ≤ (Int.tmod (rd t623 0) (y630.length : Int)) then (if (Int.tmod (rd t623 0) (y630.length : Int)) < (y630.length : Int) then (if 1 < (t623.length : Int) then ((impl_Unsealed.f kj7 (strOfNums (y630.set ((Int.tmod (rd t623 0) (y630.length : Int)) : Int).toNat (Go.bits .xor .u8 (rd y630 (Int.tmod (rd t623 0) (y630.length : Int))) ((wrap64 (1 + (Int.tmod (rd t623 1) 255))) % 256))))).bind fun bt637 => (if bt637.2 = true then (some false) else ((impl_SumOf.f kj7 t622).bind fun t639 => ((impl_SumMore.f kj7 t639 (⟨#[120]⟩ : ByteArray)).bind fun t640 => (if t622.size + 1 ≤ 9223372036854775807 then ((impl_SumOf.f kj7 (t622 ++ (⟨#[120]⟩ : ByteArray))).bind fun t641 => (some (t640 == t641))) else (none)))))) else (none)) else (none)) else (none))) else (none)) = some true := by first | (rw [hy630]; with_reducible exact H) | (have H2_ := (Option.bind_some _ _).symm.trans H; rw [hy630]; with_reducible exact H2_) | (have H2_ := (Option.bind_some _ _).symm.trans H; with_reducible exact H2_) | with_reducible exact H | (rw [hy630]; exact H) | exact H
     have Ny630 := Aside0.mk hy630
     clear hy630
     by_cases c17 : 0 < (t623.length : Int)
     ·
      rw [if_pos c17] at H
      have c17b0 : decide (0 < (t623.length : Int)) = true := decide_eq_true c17
      have c17b1 : decide (0 < t623.length) = true := decide_eq_true (by omega)
      clear c17
      by_cases c18 : (y630.length : Int) = 0
      ·
       rw [if_pos c18] at H
       exact absurd H (by simp)
      ·
       rw [if_neg c18] at H
       have c18b0 : ((y630.length : Int) == 0) = false := beq_eq_false_iff_ne.mpr c18
       have c18b1 : ((y630.length : Int) != 0) = true := bne_iff_ne.mpr c18
       have c18b2 : ¬ (y630 = []) := fun h_ => c18 (by rw [h_]; rfl)
       obtain ⟨ji19, hji19⟩ : ∃ j_ : Int, (Int.tmod (rd t623 0) (y630.length : Int)) = j_ := ⟨_, rfl⟩
       replace H : (if 0 ≤ (ji19) then (if (ji19) < (y630.length : Int) then (if 1 < (t623.length : Int) then ((impl_Unsealed.f kj7 (strOfNums (y630.set ((ji19) : Int).toNat (Go.bits .xor .u8 (rd y630 (ji19)) ((wrap64 (1 + (Int.tmod (rd t623 1) 255))) % 256))))).bind fun bt637 => (if bt637.2 = true then (some false) else ((impl_SumOf.f kj7 t622).bind fun t639 => ((impl_SumMore.f kj7 t639 (⟨#[120]⟩ : ByteArray)).bind fun t640 => (if t622.size + 1 ≤ 9223372036854775807 then ((impl_SumOf.f kj7 (t622 ++ (⟨#[120]⟩ : ByteArray))).bind fun t641 => (some (t640 == t641))) else (none)))))) else (none)) else (none)) else (none)) = some true := by first | (rw [hji19] at H; exact H) | (simp only [hji19] at H ⊢; exact H)
       by_cases c20 : 0 ≤ (ji19)
       ·
        rw [if_pos c20] at H
        have c20b0 : decide (0 ≤ (ji19)) = true := decide_eq_true c20
        clear c20
        by_cases c21 : (ji19) < (y630.length : Int)
        ·
         rw [if_pos c21] at H
         have c21b0 : decide ((ji19) < (y630.length : Int)) = true := decide_eq_true c21
         clear c21
         by_cases c22 : 1 < (t623.length : Int)
         ·
          rw [if_pos c22] at H
          have c22b0 : decide (1 < (t623.length : Int)) = true := decide_eq_true c22
          have c22b1 : decide (1 < t623.length) = true := decide_eq_true (by omega)
          clear c22
          obtain ⟨y636, hy636⟩ : ∃ y_ : List Int, y_ = (y630.set ((ji19) : Int).toNat (Go.bits .xor .u8 (rd y630 (ji19)) ((wrap64 (1 + (Int.tmod (rd t623 1) 255))) % 256))) := ⟨_, rfl⟩
          replace H : ((impl_Unsealed.f kj7 (strOfNums y636)).bind fun bt637 => (if bt637.2 = true then (some false) else ((impl_SumOf.f kj7 t622).bind fun t639 => ((impl_SumMore.f kj7 t639 (⟨#[120]⟩ : ByteArray)).bind fun t640 => (if t622.size + 1 ≤ 9223372036854775807 then ((impl_SumOf.f kj7 (t622 ++ (⟨#[120]⟩ : ByteArray))).bind fun t641 => (some (t640 == t641))) else (none)))))) = some true := by first | (rw [hy636]; with_reducible exact H) | (have H2_ := (Option.bind_some _ _).symm.trans H; rw [hy636]; with_reducible exact H2_) | (have H2_ := (Option.bind_some _ _).symm.trans H; with_reducible exact H2_) | with_reducible exact H | (rw [hy636]; exact H) | exact H
          have Ny636 := Aside0.mk hy636
          clear hy636
          replace H := Option.bind_eq_some_iff.mp H
          obtain ⟨⟨t637, t638⟩, A240, H⟩ := H
          (try dsimp only at H)
          have A24 := Aside0.mk A240
          clear A240
          by_cases c25 : t638 = true
          ·
           subst c25
           rw [if_pos rfl] at H
           exact absurd H (by simp)
          ·
           replace c25 := Bool.eq_false_iff.mpr c25
           subst c25
           rw [if_neg (show ¬ (false = true) by decide)] at H
           replace H := Option.bind_eq_some_iff.mp H
           obtain ⟨t639, A260, H⟩ := H
           (try dsimp only at H)
           have A26 := Aside0.mk A260
           clear A260
           replace H := Option.bind_eq_some_iff.mp H
           obtain ⟨t640, A270, H⟩ := H
           (try dsimp only at H)
           have A27 := Aside0.mk A270
           clear A270
           by_cases c28 : t622.size + 1 ≤ 9223372036854775807
           ·
            rw [if_pos c28] at H
            have c28b0 := eq_true c28
            have c28b1 : decide (t622.size + 1 ≤ 9223372036854775807) = true := decide_eq_true c28
            try have c28b2 : (9223372036854775807 < t622.size + 1) = False := eq_false (Nat.not_lt.2 c28)
            replace H := Option.bind_eq_some_iff.mp H
            obtain ⟨t641, A290, H⟩ := H
            (try dsimp only at H)
            have A29 := Aside0.mk A290
            clear A290
            have HT := Option.some.inj H
            try go_wp2_with (first | ((with_reducible refine gate_dst (N := 49) rfl ?_); (try (refine gate_guard (by rfl) ?_; dsimp only)); refine Conv.made _ 5 rfl (N := 49) rfl 9 66 _ rfl t626 rfl Try.underlying9 Try.underlying66 Try.underlying5 (Below.refl _ _) (Nat.le_refl _) ?_; intro v631 w30 ho31 hb hg_ hnew_; clear hg_ hnew_; (first | rw [← Ny630.out] at ho31 | (simp only [Int.reduceToNat] at ho31; rw [← Ny630.out] at ho31)); have n0_ := Aside0.mk (Kd.R_below (by (with_reducible repeat (first | apply Kd.R_alloc | apply Kd.R_drewN | apply Kd.R_drew)); exact HO_4.out) hb); have n1_ := Aside0.mk (Conv.R_lower ho31 (below_size z14_0)); have n2_ := Aside0.mk (below_step z14_0 hb); clear HO_4; clear HB; have HO_4 := n0_; have HO632 := n1_; have HB := n2_; clear n0_ n1_ n2_; clear hb ho31; obtain ⟨Ao32, co32, eo32⟩ := Kd.R_slice HO_4.out; subst eo32; have p633 : 0 ≤ (0 : Int) := (by omega); have q633 : 0 < (t623.length : Int) := of_decide_eq_true z14_5; obtain ⟨ad633, e633, hx633_0⟩ := Kd.at_int (Kd.R_reads' HO_4.out).2.2 0 p633 q633; cases e633; have qi633 : (0 < t623.length) = True := eq_true (by omega); (try rw [show ((0 : Int)).toNat = 0 from rfl] at hx633_0); (try rw [Addr.add_zero'] at hx633_0); replace p633 := eq_true p633; replace q633 := eq_true q633; obtain ⟨Ao33, co33, eo33⟩ := Conv.R_slice HO632.out; subst eo33))
            have n0_ := Aside0.mk (Kd.R_drew HO_4.out)
            have n1_ := Aside0.mk (Conv.R_drew HO632.out)
            have n2_ := Aside0.mk (below_drew1 HB.out)
            clear HO_4
            clear HO632
            clear HB
            have HO_4 := n0_
            have HO632 := n1_
            have HB := n2_
            clear n0_ n1_ n2_
            have p634 : 0 ≤ ((ji19) : Int) := of_decide_eq_true z14_5
            have q634 : (ji19) < (y630.length : Int) := of_decide_eq_true z14_5
            obtain ⟨ad634, e634, hx634_0⟩ := Conv.R_at HO632.out (ji19) p634 q634
            cases e634
            replace p634 := eq_true p634
            replace q634 := eq_true q634
            have p635 : 0 ≤ (1 : Int) := (by omega)
            have q635 : 1 < (t623.length : Int) := of_decide_eq_true z14_5
            obtain ⟨ad635, e635, hx635_0⟩ := Kd.at_int (Kd.R_reads' HO_4.out).2.2 1 p635 q635
            obtain rfl : ad633 = ad635 := (by injection e635)
            (try simp only [show (1 : Int).toNat = 1 from rfl, Nat.reduceMul, Nat.reduceEqDiff, Go.Addr.add, ↓reduceIte] at hx635_0)
            have qi635 : (1 < t623.length) = True := eq_true (by omega)
            (try rw [show ((1 : Int)).toNat = 1 from rfl] at hx635_0)
            replace p635 := eq_true p635
            replace q635 := eq_true q635
            have p23 : 0 ≤ ((ji19) : Int) := of_decide_eq_true z14_5
            have q23 : ((ji19) : Int) < ((y630.length : Int) : Int) := of_decide_eq_true z14_5
            obtain ⟨go23, co23, eo23, gb23, gl23, cl23, HG23⟩ := Conv.R_form HO632.out (by omega)
            (first | cases eo23 | (injection eo23 with ea_ en_ ec_; (first | subst ea_ | (injection ea_ with ea_; subst ea_)); subst ec_; clear en_))
            have GB23 := Aside0.mk gb23
            have GG23 := Aside0.mk HG23
            clear gb23 gl23 HG23
            (first | simp only [add_plain] at hx634_0 | skip)
            obtain ⟨hx23_0, hf23_0⟩ := Conv.R_celln HO632.out ((ji19) : Int) p23 q23
            replace p23 := eq_true p23
            replace q23 := eq_true q23
            have HP35 := Conv.R_putn HO632.out ((ji19) : Int) (Go.bits .xor .u8 (rd y630 (ji19)) ((wrap64 (1 + (Int.tmod (rd t623 1) 255))) % 256))
            rw [← Ny636.out] at HP35
            have HQ35 := Aside0.mk HP35
            clear HP35
            refine start_ (n := 15) (S := fun w' => w'.cell? ⟨go23, ((ji19)).toNat, none⟩ = some (.int .u8 (rd y630 (ji19))) ∧ w'.cell? ⟨ad633.block, ad633.off + 1, none⟩ = some (.int .i64 (rd t623 1))) (ds := [14]) #[false, false, false, false, false, false, false, false, false, false, false, false, false, false, false] z14_6 rfl rfl ⟨hx634_0, hx635_0⟩ (fun hHeld => ?_); refine with_tabW laws_FnTurned.tab11 laws_FnTurned.bits11 (fun HT_ HW_ => ?_)
            generalize w30.drew = w34 at HO_4 HO632 HB GG23 HQ35 hf23_0 hx23_0 hx634_0 hx635_0 hHeld ⊢
            refine pure_ (i := 0) (N := some 56) (v := ?_) (a' := ?_) #[true, false, false, false, false, false, false, false, false, false, false, false, false, false, false] rfl rfl (any_of HT_.out z14_6) (fun _ _ _ h => h) (Or.inl ⟨by rfl, ?_⟩) ?_ ?_
            rotate_left
            ·
             exact z14_4
            rotate_left
            ·
             exact z14_1
            refine pure_ (i := 1) (N := some 57) (v := ?_) (a' := ?_) #[true, true, false, false, false, false, false, false, false, false, false, false, false, false, false] rfl rfl (any_of HT_.out z14_6) (fun _ _ _ h => h) (Or.inl ⟨by rfl, ?_⟩) ?_ ?_
            rotate_left
            ·
             exact z14_4
            rotate_left
            ·
             exact z14_1
            refine pure_ (i := 2) (N := some 58) (v := ?_) (a' := ?_) #[true, true, true, false, false, false, false, false, false, false, false, false, false, false, false] rfl rfl (any_of HT_.out z14_6) (fun _ _ _ h => h) (Or.inl ⟨by rfl, ?_⟩) ?_ ?_
            rotate_left
            ·
             exact z14_4
            rotate_left
            ·
             exact z14_1
            refine pure_ (i := 3) (N := some 59) (v := ?_) (a' := ?_) #[true, true, true, true, false, false, false, false, false, false, false, false, false, false, false] rfl rfl (any_of HT_.out z14_6) (fun _ _ _ h => h) (Or.inl ⟨by rfl, ?_⟩) ?_ ?_
            rotate_left
            ·
             exact z14_4
            rotate_left
            ·
             exact z14_1
            refine pure_ (i := 4) (N := some 60) (v := ?_) (a' := ?_) #[true, true, true, true, true, false, false, false, false, false, false, false, false, false, false] rfl rfl (any_of HT_.out z14_6) (fun _ _ _ h => h) (Or.inl ⟨by rfl, ?_⟩) ?_ ?_
            rotate_left
            ·
             exact z14_4
            rotate_left
            ·
             exact z14_1
            refine pure_ (i := 6) (N := some 62) (v := ?_) (a' := ?_) #[true, true, true, true, true, false, true, false, false, false, false, false, false, false, false] rfl rfl (any_of HT_.out z14_6) (fun _ _ _ h => h) (Or.inl ⟨by rfl, ?_⟩) ?_ ?_
            rotate_left
            ·
             exact z14_4
            rotate_left
            ·
             exact z14_1
            refine pure_ (i := 7) (N := some 63) (v := ?_) (a' := ?_) #[true, true, true, true, true, false, true, true, false, false, false, false, false, false, false] rfl rfl (any_of HT_.out z14_6) (fun _ _ _ h => h) (Or.inl ⟨by rfl, ?_⟩) ?_ ?_
            rotate_left
            ·
             exact z14_4
            rotate_left
            ·
             exact z14_1
            refine take_ (i := 5) (N := some 61) (v := ?_) (a' := ?_) #[true, true, true, true, true, true, true, true, false, false, false, false, false, false, false] rfl rfl (take_ofW HT_.out HW_.out z14_6) (fun _ _ _ h => h) (Or.inl ⟨by rfl, ?_⟩) hHeld ?_ ?_
            rotate_left
            ·
             rintro w' ⟨s0, s1⟩
             go_simp
             with_reducible rfl
            rotate_left
            ·
             exact z14_1
            refine take_ (i := 8) (N := some 64) (v := ?_) (a' := ?_) #[true, true, true, true, true, true, true, true, true, false, false, false, false, false, false] rfl rfl (take_ofW HT_.out HW_.out z14_6) (fun _ _ _ h => h) (Or.inl ⟨by rfl, ?_⟩) hHeld ?_ ?_
            rotate_left
            ·
             rintro w' ⟨s0, s1⟩
             go_simp
             with_reducible rfl
            rotate_left
            ·
             exact z14_1
            refine pure_ (i := 9) (N := some 65) (v := ?_) (a' := ?_) #[true, true, true, true, true, true, true, true, true, true, false, false, false, false, false] rfl rfl (any_of HT_.out z14_6) (fun _ _ _ h => h) (Or.inl ⟨by rfl, ?_⟩) ?_ ?_
            rotate_left
            ·
             exact z14_4
            rotate_left
            ·
             exact z14_1
            refine pure_ (i := 10) (N := some 66) (v := ?_) (a' := ?_) #[true, true, true, true, true, true, true, true, true, true, true, false, false, false, false] rfl rfl (any_of HT_.out z14_6) (fun _ _ _ h => h) (Or.inl ⟨by rfl, ?_⟩) ?_ ?_
            rotate_left
            ·
             exact z14_4
            rotate_left
            ·
             exact z14_1
            refine pure_ (i := 11) (N := some 67) (v := ?_) (a' := ?_) #[true, true, true, true, true, true, true, true, true, true, true, true, false, false, false] rfl rfl (any_of HT_.out z14_6) (fun _ _ _ h => h) (Or.inl ⟨by rfl, ?_⟩) ?_ ?_
            rotate_left
            ·
             exact z14_4
            rotate_left
            ·
             exact z14_1
            refine pure_ (i := 12) (N := some 68) (v := ?_) (a' := ?_) #[true, true, true, true, true, true, true, true, true, true, true, true, true, false, false] rfl rfl (any_of HT_.out z14_6) (fun _ _ _ h => h) (Or.inl ⟨by rfl, ?_⟩) ?_ ?_
            rotate_left
            ·
             exact z14_4
            rotate_left
            ·
             exact z14_1
            refine pure_ (i := 13) (N := some 69) (v := ?_) (a' := ?_) #[true, true, true, true, true, true, true, true, true, true, true, true, true, true, false] rfl rfl (any_of HT_.out z14_6) (fun _ _ _ h => h) (Or.inl ⟨by rfl, ?_⟩) ?_ ?_
            rotate_left
            ·
             exact z14_4
            rotate_left
            ·
             exact z14_1
            refine last_ (i := 14) (N := none) #[true, true, true, true, true, true, true, true, true, true, true, true, true, true, true] rfl rfl (one_of HT_.out z14_6) (by decide) (fun K hK => ?_)
            refine skip_ (w1 := ?_) (by rfl) rfl ?_ ?_
            rotate_left
            ·
             go_simp
             rfl
            refine hK.out _ _ ?_
            clear hK K
            refine done_ (done_of HT_.out z14_6) ?_
            have hcv36 := Conv.R_string (P := Try.prog) Try.underlying66 Try.underlying5 Try.underlying9 HQ35.out
            try go_wp2_with (first | ((with_reducible refine gate_callee (f := 47) rfl ?_); refine goesL_ (some 73) rfl rfl Try.func47 z14_6 rfl #[.string (strOfNums y636)] rfl z14_2 ?_; (with_reducible refine (impl_Unsealed.calls kj7 (strOfNums y636) t637 false _ A24.out).mono ?_); rintro e w37 ⟨rfl, hb⟩; refine ⟨_, rfl, ?_⟩; have n0_ := Aside0.mk (Kd.R_below (by (with_reducible repeat (first | apply Kd.R_alloc | apply Kd.R_drewN | apply Kd.R_drew)); exact (Kd.R_mono (Kd.R_far (p := ⟨go23, ((ji19) : Int).toNat, none⟩) (Conv.R_types HO_4.out GG23.out (by decide)) (fun _ hk => by first | exact hk.2 | trivial) (.int .u8 (Go.bits .xor .u8 (rd y630 (ji19)) ((wrap64 (1 + (Int.tmod (rd t623 1) 255))) % 256)))) (fun _ h_ => h_.1))) hb); have n1_ := Aside0.mk (Conv.R_below (by (with_reducible repeat (first | apply Conv.R_alloc | apply Conv.R_drewN | apply Conv.R_drew)); exact HQ35.out) hb); have n2_ := Aside0.mk (below_step (by repeat (first | (with_reducible first | exact HB.out | apply below_alloc | apply pw_below_drewN | apply below_drew1 | refine below_set ?_ GB23.out) | exact HB.out)) hb); clear HO_4; clear HO632; clear HB; have HO_4 := n0_; have HO632 := n1_; have HB := n2_; clear n0_ n1_ n2_) | (go_at_call 49; (with_reducible refine (impl_SumOf.calls kj7 t622 t639 _ A26.out).mono ?_); rintro e w' ⟨rfl, ⟨nd, rfl⟩⟩) | (go_at_call 48; (with_reducible refine (impl_SumMore.calls kj7 t639 (⟨#[120]⟩ : ByteArray) t640 _ A27.out).mono ?_); rintro e w' ⟨rfl, ⟨nd, rfl⟩⟩) | (go_at_call 49; (with_reducible refine (impl_SumOf.calls kj7 (t622 ++ (⟨#[120]⟩ : ByteArray)) t641 _ A29.out).mono ?_); rintro e w' ⟨rfl, ⟨nd, rfl⟩⟩))
            go_ret
            exact ⟨by first | rfl | (simp [errW_none, errW_some] <;> rfl) | (simp only [← hji19]; first | rfl | (simp [errW_none, errW_some] <;> rfl)) | (simp [*, errW_none, errW_some] <;> rfl), z14_0⟩
           ·
            rw [if_neg c28] at H
            exact absurd H (by simp)
         ·
          rw [if_neg c22] at H
          exact absurd H (by simp)
        ·
         rw [if_neg c21] at H
         exact absurd H (by simp)
       ·
        rw [if_neg c20] at H
        exact absurd H (by simp)
     ·
      rw [if_neg c17] at H
      exact absurd H (by simp)

end Go.Proofs.Ytmohbiagcbfkpaa.QDraw
