/- What the functions behind SOk compute, and that the program's calls come to just that. Written by a program of this session on the base of the kit's print. No condition. -/
import Derived.Test.YtbanogkoaplcdaaVFnExactStateOkShort
import Derived.Test.YtbanogkoaplcdaaVFnExactStateOkQSOkx0
import Derived.Test.YtbanogkoaplcdaaVFnExactStateOkQSOkx12
import Derived.Test.YtbanogkoaplcdaaVFnExactStateOkQSOkx14
namespace Go.Proofs.Ytbanogkoaplcdaa.QSOk
open Go.RowKit Go.Proofs.Ytbanogkoaplcdaa.Short Go.Proofs.YtbanogkoaplcdaaW.PrintWords Go.Proofs.YtbanogkoaplcdaaW.PrintLast Go.Proofs.YtbanogkoaplcdaaW.PrintMore
attribute [local go_sem] max2_int min2_int max_two min_two max_three min_three max_four min_four   -- for this text's walks alone
set_option linter.unusedVariables false
set_option linter.unusedSimpArgs false
theorem z15_11 {P : Prop} (h : P := by (try simp only [List.map_toArray, List.map_cons, List.map_nil]); first | done | (simp only [hji38]; rfl) | rfl | (simp only [List.length_drop, List.length_take]; rfl)) : P := h
theorem z15_10 {P : Prop} (h : P := by first | (with_reducible assumption) | assumption) : P := h
theorem z15_9 {P : Prop} (h : P := by have := HK1.out; first | omega | exact Nat.le_refl _) : P := h
theorem z15_8 {P : Prop} (h : P := by first | rfl | (simp; done) | (simp [*]; done)) : P := h
theorem z15_7 {P : Prop} (h : P := by first | rfl | (simp only [List.map_toArray, List.map_cons, List.map_nil]; first | done | rfl)) : P := h
theorem z15_6 {P : Prop} (h : P := by kernel_rfl) : P := h
theorem z15_5 {P : Prop} (h : P := by repeat (first | (with_reducible first | exact HB.out | apply below_alloc | apply pw_below_drewN | apply below_drew1) | exact HB.out)) : P := h
theorem z15_4 {P : Prop} (h : P := by (with_reducible repeat (first | refine blk_drewN ?_ _ | refine blk_drew ?_ | refine blk_alloc ?_ _)); exact BK310.out) : P := h
theorem z15_3 {P : Prop} (h : P := by intro w'; go_simp; with_reducible rfl) : P := h
theorem z15_2 {P : Prop} (h : P := by repeat (first | (with_reducible first | exact HB.out | apply below_alloc | apply pw_below_drewN | apply below_drew1 | refine below_set ?_ GE310.out) | exact HB.out)) : P := h
theorem z15_1 {P : Prop} (h : P := by simp only [Act.put, List.setIfInBounds_toArray, List.set_cons_zero, List.set_cons_succ, i64_w, i32_w]; rfl) : P := h
theorem z15_0 {P : Prop} (h : P := by (with_reducible repeat (first | refine blk_drewN ?_ _ | refine blk_drew ?_ | refine blk_alloc ?_ _)); refine blk_put (cs := #[.bool ((rd_T86 l0 x9_1).f0), .string ((rd_T86 l0 x9_1).f1), .string ((rd_T86 l0 x9_1).f2), .int .i64 ((rd_T86 l0 x9_1).f3), .int .i64 ((rd_T86 l0 x9_1).f4.f0), .int .i64 0]) ?_ 5 _ rfl; (with_reducible repeat (first | refine blk_drewN ?_ _ | refine blk_drew ?_ | refine blk_alloc ?_ _)); refine blk_put (cs := #[.bool ((rd_T86 l0 x9_1).f0), .string ((rd_T86 l0 x9_1).f1), .string ((rd_T86 l0 x9_1).f2), .int .i64 ((rd_T86 l0 x9_1).f3), .int .i64 0, .int .i64 0]) ?_ 4 _ rfl; (with_reducible repeat (first | refine blk_drewN ?_ _ | refine blk_drew ?_ | refine blk_alloc ?_ _)); refine blk_put (cs := #[.bool ((rd_T86 l0 x9_1).f0), .string ((rd_T86 l0 x9_1).f1), .string ((rd_T86 l0 x9_1).f2), .int .i64 0, .int .i64 0, .int .i64 0]) ?_ 3 _ rfl; (with_reducible repeat (first | refine blk_drewN ?_ _ | refine blk_drew ?_ | refine blk_alloc ?_ _)); refine blk_put (cs := #[.bool ((rd_T86 l0 x9_1).f0), .string ((rd_T86 l0 x9_1).f1), .string (⟨#[]⟩ : ByteArray), .int .i64 0, .int .i64 0, .int .i64 0]) ?_ 2 _ rfl; (with_reducible repeat (first | refine blk_drewN ?_ _ | refine blk_drew ?_ | refine blk_alloc ?_ _)); refine blk_put (cs := #[.bool ((rd_T86 l0 x9_1).f0), .string (⟨#[]⟩ : ByteArray), .string (⟨#[]⟩ : ByteArray), .int .i64 0, .int .i64 0, .int .i64 0]) ?_ 1 _ rfl; (with_reducible repeat (first | refine blk_drewN ?_ _ | refine blk_drew ?_ | refine blk_alloc ?_ _)); refine blk_put (cs := #[.bool false, .string (⟨#[]⟩ : ByteArray), .string (⟨#[]⟩ : ByteArray), .int .i64 0, .int .i64 0, .int .i64 0]) ?_ 0 _ rfl; (with_reducible repeat (first | refine blk_drewN ?_ _ | refine blk_drew ?_ | refine blk_alloc ?_ _)); exact BK310.out) : P := h
abbrev mk15_0 : Array Bool := #[false, false, false, false, false, false, false, false, false, false, false, false, false, false]
abbrev mk15_1 : Array Bool := #[true, false, false, false, false, false, false, false, false, false, false, false, false, false]
abbrev mk15_2 : Array Bool := #[true, true, false, false, false, false, false, false, false, false, false, false, false, false]
abbrev mk15_3 : Array Bool := #[true, true, true, false, false, false, false, false, false, false, false, false, false, false]
abbrev mk15_4 : Array Bool := #[true, true, true, true, false, false, false, false, false, false, false, false, false, false]
abbrev mk15_5 : Array Bool := #[true, true, true, true, true, false, false, false, false, false, false, false, false, false]
abbrev mk15_6 : Array Bool := #[true, true, true, true, true, true, false, false, false, false, false, false, false, false]
abbrev mk15_7 : Array Bool := #[true, true, true, true, true, true, true, false, false, false, false, false, false, false]
abbrev mk15_8 : Array Bool := #[true, true, true, true, true, true, true, true, false, false, false, false, false, false]
abbrev mk15_9 : Array Bool := #[true, true, true, true, true, true, true, true, false, true, false, false, false, false]
abbrev mk15_10 : Array Bool := #[true, true, true, true, true, true, true, true, true, true, false, false, false, false]
abbrev mk15_11 : Array Bool := #[true, true, true, true, true, true, true, true, true, true, true, false, false, false]
abbrev mk15_12 : Array Bool := #[true, true, true, true, true, true, true, true, true, true, true, true, false, false]
abbrev mk15_13 : Array Bool := #[true, true, true, true, true, true, true, true, true, true, true, true, true, false]
abbrev mk15_14 : Array Bool := #[true, true, true, true, true, true, true, true, true, true, true, true, true, true]
abbrev mk15_15 : Array Bool := #[true, true, true, true, true, true, true, true, true, false, false, false, false, false]
mutual
def impl_livesOk.l0 : Nat → List (S86) → List Int → List (S86) → Int → Int → Option (Bool)
  | 0, _, _, _, _, _ => none
  | k + 1, x0, x1, x7, x8, x9 => if x9 < x8 then (if 0 ≤ x9 then (if x9 < (x7.length : Int) then ((impl_Knows.f k x1 ((rd_T86 x7 x9).f4.f0) ((rd_T86 x7 x9).f4.f1)).bind fun t311 => (if t311 = true then ((impl_NameOk.f k ((rd_T86 x7 x9).f1)).bind fun t312 => (if t312 = true then ((impl_NameOk.f k ((rd_T86 x7 x9).f2)).bind fun t313 => (if t313 = true then ((impl_within.f ((rd_T86 x7 x9).f3) 0 999999).bind fun t314 => (if t314 = true then (if ((rd_T86 x7 x9).f0 = true) then (impl_livesOk.j1 k x0 x1 x9 x7 x8 x9 false ((rd_T86 x7 x9).f0) ((rd_T86 x7 x9).f1) ((rd_T86 x7 x9).f2) ((rd_T86 x7 x9).f3) ((rd_T86 x7 x9).f4.f0) ((rd_T86 x7 x9).f4.f1)) else (impl_livesOk.j1 k x0 x1 x9 x7 x8 x9 (((rd_T86 x7 x9).f3) != 0) ((rd_T86 x7 x9).f0) ((rd_T86 x7 x9).f1) ((rd_T86 x7 x9).f2) ((rd_T86 x7 x9).f3) ((rd_T86 x7 x9).f4.f0) ((rd_T86 x7 x9).f4.f1))) else (impl_livesOk.j1 k x0 x1 x9 x7 x8 x9 true ((rd_T86 x7 x9).f0) ((rd_T86 x7 x9).f1) ((rd_T86 x7 x9).f2) ((rd_T86 x7 x9).f3) ((rd_T86 x7 x9).f4.f0) ((rd_T86 x7 x9).f4.f1)))) else (impl_livesOk.j1 k x0 x1 x9 x7 x8 x9 true ((rd_T86 x7 x9).f0) ((rd_T86 x7 x9).f1) ((rd_T86 x7 x9).f2) ((rd_T86 x7 x9).f3) ((rd_T86 x7 x9).f4.f0) ((rd_T86 x7 x9).f4.f1)))) else (impl_livesOk.j1 k x0 x1 x9 x7 x8 x9 true ((rd_T86 x7 x9).f0) ((rd_T86 x7 x9).f1) ((rd_T86 x7 x9).f2) ((rd_T86 x7 x9).f3) ((rd_T86 x7 x9).f4.f0) ((rd_T86 x7 x9).f4.f1)))) else (impl_livesOk.j1 k x0 x1 x9 x7 x8 x9 true ((rd_T86 x7 x9).f0) ((rd_T86 x7 x9).f1) ((rd_T86 x7 x9).f2) ((rd_T86 x7 x9).f3) ((rd_T86 x7 x9).f4.f0) ((rd_T86 x7 x9).f4.f1)))) else (none)) else (none)) else (some (decide ((x0.length : Int) ≤ 120)))
def impl_livesOk.j1 : Nat → List (S86) → List Int → Int → List (S86) → Int → Int → Bool → Bool → ByteArray → ByteArray → Int → Int → Int → Option (Bool)
  | 0, _, _, _, _, _, _, _, _, _, _, _, _, _ => none
  | k + 1, x0, x1, x5, x7, x8, x9, x46, x311000, x311001, x311002, x311003, x311004, x311005 => if x46 = true then (some false) else (if x5 > 0 then (if 0 ≤ (wrap64 (x5 - 1)) then (if (wrap64 (x5 - 1)) < (x0.length : Int) then ((impl_compareDots.f k ((rd_T86 x0 (wrap64 (x5 - 1))).f4.f0) ((rd_T86 x0 (wrap64 (x5 - 1))).f4.f1) x311004 x311005).bind fun t316 => (if t316 ≥ 0 then (some false) else (impl_livesOk.l0 k x0 x1 x7 x8 (wrap64 (x9 + 1))))) else (none)) else (none)) else (impl_livesOk.l0 k x0 x1 x7 x8 (wrap64 (x9 + 1))))
end


def impl_livesOk.f (k : Nat) (l0 : List (S86)) (l1 : List Int) : Option (Bool) := impl_livesOk.l0 k l0 l1 l0 (l0.length : Int) 0
def impl_livesOk.T6 : Bool × List (List Nat × List Nat) := (true, [([], []), ([0], [0]), ([1], [1]), ([2], [2]), ([2], [2]), ([4, 2], [2, 4]), ([3, 5, 2], [2, 3, 5]), ([6, 2], [2, 6]), ([7, 2], [2, 7]), ([2], [2]), ([9, 2], [2, 9]), ([8, 10, 2, 2], [2, 8, 10]), ([11, 2], [2, 11]), ([2, 12], [2, 12])])
def impl_livesOk.B6 : List Nat := [0, 1, 3, 7, 7, 23, 63, 127, 255, 7, 519, 2047, 4095, 8191]
theorem impl_livesOk.tab6 : rtab .any (opsOf Try.f63 6) = impl_livesOk.T6 := by kernel_rfl
theorem impl_livesOk.bits6 : waitsOk impl_livesOk.T6.2 impl_livesOk.B6 = true := by kernel_rfl
set_option maxHeartbeats 8000000 in
set_option maxRecDepth 100000 in
theorem impl_livesOk.calls (k : Nat) (A0 : Option Addr) (c0 : Nat) (l0 : List (S86)) (A1 : Option Addr) (c1 : Nat) (l1 : List Int) (r : Bool) (w : World) (hr0 : Kd.C k86 w A0 l0.length l0) (hc0 : l0.length ≤ c0) (hr1 : Kd.C (Kd.int .i64) w A1 l1.length l1) (hc1 : l1.length ≤ c1) (h : impl_livesOk.f k l0 l1 = some r) :
  Calls Try.prog 63 #[.slice A0 l0.length c0, .slice A1 l1.length c1] w fun e w' => e = .returned (.bool r) ∧ Below w.heap.size w w' := by
 have hu86 := Try.underlying86
 have hu38 := Try.underlying38
 have HR0 := Aside0.mk hr0
 have HC0 := Aside0.mk hc0
 clear hr0 hc0
 have HR1 := Aside0.mk hr1
 have HC1 := Aside0.mk hc1
 clear hr1 hc1
 have HB := Aside0.mk (Below.refl w.heap.size w)
 have H : (impl_livesOk.l0 k l0 l1 l0 (l0.length : Int) 0) = some r := h
 clear h
 have H' := Aside0.mk H
 clear H
 go_enter Try.func63, Try.ntmps63
 go_wp2
 go_loopg [9] k (fun kq v9 w' => ∃ (x9_1 : Int), v9 = .int .i64 x9_1 ∧ Aside0 (impl_livesOk.l0 kq l0 l1 l0 (l0.length : Int) x9_1 = some r) ∧ Aside0 (kq ≤ k) ∧ Aside0 (Below w.heap.size w w'))
 case atStart => exact ⟨(0), z15_8, H', ⟨Nat.le_refl _⟩, ⟨z15_5⟩⟩
 case round =>
  clear H'
  try clear c1
  try clear p2
  obtain ⟨x9_1, rfl, HA, HK1, HB⟩ := hrel
  cases gk with
  | zero => exact absurd HA.out (by simp [impl_livesOk.l0])
  | succ k1 =>
   have H := HA.out
   clear HA
   simp only [impl_livesOk.l0] at H
   by_cases c3 : x9_1 < (l0.length : Int)
   ·
    rw [if_pos c3] at H
    have c3b0 : decide (x9_1 < (l0.length : Int)) = true := decide_eq_true c3
    clear c3
    by_cases c4 : 0 ≤ x9_1
    ·
     rw [if_pos c4] at H
     have c4b0 : decide (0 ≤ x9_1) = true := decide_eq_true c4
     clear c4
     by_cases c5 : x9_1 < (l0.length : Int)
     ·
      rw [if_pos c5] at H
      have c5b0 : decide (x9_1 < (l0.length : Int)) = true := decide_eq_true c5
      clear c5
      have HC6 := Aside0.mk H
      clear H
      have p309 : 0 ≤ (x9_1 : Int) := of_decide_eq_true z15_10
      have q309 : x9_1 < (l0.length : Int) := of_decide_eq_true z15_10
      obtain ⟨ad309, e309, hx309_0, hx309_1, hx309_2, hx309_3, hx309_4, hx309_5⟩ := at_T86 HR0.out x9_1 p309 q309
      cases e309
      replace hx309_0 := cb_ HB hx309_0
      replace hx309_1 := cb_ HB hx309_1
      replace hx309_2 := cb_ HB hx309_2
      replace hx309_3 := cb_ HB hx309_3
      replace hx309_4 := cb_ HB hx309_4
      replace hx309_5 := cb_ HB hx309_5
      replace p309 := eq_true p309
      replace q309 := eq_true q309
      go_upto_region 4 with (first | ((with_reducible refine gate_dst (N := 6) rfl ?_); refine box_event ?hg (N := 6) ?hd (cs := #[.bool false, .string (⟨#[]⟩ : ByteArray), .string (⟨#[]⟩ : ByteArray), .int .i64 0, .int .i64 0, .int .i64 0]) (t := 86) ?hr ?_; (case hd => rfl); (case hg => rfl); (case hr => first | (go_simp; done) | (go_simp; rfl)); intro gb310 hg w7 hbox hb; have BK310 := Aside0.mk (hbox); have GW310 := gw_ w z15_5 hg; have GE310 := gw_ w z15_5 hg; replace HB := Aside0.mk (below_step z15_5 hb); clear hb hbox hg; obtain ⟨hcz8_0, hcz8_1, hcz8_2, hcz8_3, hcz8_4, hcz8_5, hfz8_0, hfz8_1, hfz8_2, hfz8_3, hfz8_4, hfz8_5⟩ := bc6 BK310.out))
      (try simp only [Act.put, List.setIfInBounds_toArray, List.set_cons_zero, List.set_cons_succ])
      go_cut [46] (fun v46 wc => ∃ (kq : Nat) (x46_5 : Bool), v46 = .bool x46_5 ∧ Aside0 (impl_livesOk.j1 kq l0 l1 x9_1 l0 (l0.length : Int) x9_1 x46_5 ((rd_T86 l0 x9_1).f0) ((rd_T86 l0 x9_1).f1) ((rd_T86 l0 x9_1).f2) ((rd_T86 l0 x9_1).f3) ((rd_T86 l0 x9_1).f4.f0) ((rd_T86 l0 x9_1).f4.f1) = some r) ∧ Aside0 (kq ≤ k1) ∧ Aside0 (wc.heap[gb310]? = some (.cells #[.bool ((rd_T86 l0 x9_1).f0), .string ((rd_T86 l0 x9_1).f1), .string ((rd_T86 l0 x9_1).f2), .int .i64 ((rd_T86 l0 x9_1).f3), .int .i64 ((rd_T86 l0 x9_1).f4.f0), .int .i64 ((rd_T86 l0 x9_1).f4.f1)] 86 (0, 0))) ∧ Aside0 (Below w.heap.size w wc))
      case first =>
       have H := HC6.out
       clear HC6
       replace H := Option.bind_eq_some_iff.mp H
       obtain ⟨t311, A90, H⟩ := H
       (try dsimp only at H)
       have A9 := Aside0.mk A90
       clear A90
       by_cases c10 : t311 = true
       ·
        subst c10
        rw [if_pos rfl] at H
        replace H := Option.bind_eq_some_iff.mp H
        obtain ⟨t312, A110, H⟩ := H
        (try dsimp only at H)
        have A11 := Aside0.mk A110
        clear A110
        by_cases c12 : t312 = true
        ·
         subst c12
         rw [if_pos rfl] at H
         replace H := Option.bind_eq_some_iff.mp H
         obtain ⟨t313, A130, H⟩ := H
         (try dsimp only at H)
         have A13 := Aside0.mk A130
         clear A130
         by_cases c14 : t313 = true
         ·
          subst c14
          rw [if_pos rfl] at H
          replace H := Option.bind_eq_some_iff.mp H
          obtain ⟨t314, A150, H⟩ := H
          (try dsimp only at H)
          have A15 := Aside0.mk A150
          clear A150
          by_cases c16 : t314 = true
          ·
           subst c16
           rw [if_pos rfl] at H
           obtain ⟨bq17, hbq17⟩ : ∃ b_ : Bool, b_ = ((rd_T86 l0 x9_1).f0) := ⟨_, rfl⟩
           replace H : (if (bq17 = true) then (impl_livesOk.j1 k1 l0 l1 x9_1 l0 (l0.length : Int) x9_1 false bq17 ((rd_T86 l0 x9_1).f1) ((rd_T86 l0 x9_1).f2) ((rd_T86 l0 x9_1).f3) ((rd_T86 l0 x9_1).f4.f0) ((rd_T86 l0 x9_1).f4.f1)) else (impl_livesOk.j1 k1 l0 l1 x9_1 l0 (l0.length : Int) x9_1 (((rd_T86 l0 x9_1).f3) != 0) bq17 ((rd_T86 l0 x9_1).f1) ((rd_T86 l0 x9_1).f2) ((rd_T86 l0 x9_1).f3) ((rd_T86 l0 x9_1).f4.f0) ((rd_T86 l0 x9_1).f4.f1))) = some r := by rw [← hbq17] at H; exact H
           have Nbq17 := Aside0.mk hbq17
           clear hbq17
           (try rw [← Nbq17.out])
           by_cases c18 : (bq17 = true)
           ·
            subst c18
            rw [if_pos rfl] at H
            have H' := Aside0.mk H
            clear H
            obtain ⟨hcz19_0, hcz19_1, hcz19_2, hcz19_3, hcz19_4, hcz19_5, hfz19_0, hfz19_1, hfz19_2, hfz19_3, hfz19_4, hfz19_5⟩ := bc6 BK310.out
            go_wp2_with (first | ((with_reducible refine gate_callee (f := 73) rfl ?_); refine goesL_ (some 17) rfl rfl Try.func73 z15_6 rfl #[.slice A1 l1.length c1, .agg #[.int .i64 ((rd_T86 l0 x9_1).f4.f0), .int .i64 ((rd_T86 l0 x9_1).f4.f1)]] rfl z15_7 ?_; (with_reducible refine (impl_Knows.calls k1 _ _ l1 ((rd_T86 l0 x9_1).f4.f0) ((rd_T86 l0 x9_1).f4.f1) true _ ?side1 ?side2 A9.out).mono ?_); (case side1 => exact Kd.C_below HR1.out z15_2); (case side2 => exact HC1.out); rintro e w20 ⟨rfl, hb⟩; refine ⟨_, rfl, ?_⟩; replace BK310 := Aside0.mk (blk_below (g := gb310) (o := .cells #[.bool true, .string ((rd_T86 l0 x9_1).f1), .string ((rd_T86 l0 x9_1).f2), .int .i64 ((rd_T86 l0 x9_1).f3), .int .i64 ((rd_T86 l0 x9_1).f4.f0), .int .i64 ((rd_T86 l0 x9_1).f4.f1)] 86 (0, 0)) (by (with_reducible repeat (first | refine blk_drewN ?_ _ | refine blk_drew ?_ | refine blk_alloc ?_ _)); refine blk_put (cs := #[.bool (true), .string ((rd_T86 l0 x9_1).f1), .string ((rd_T86 l0 x9_1).f2), .int .i64 ((rd_T86 l0 x9_1).f3), .int .i64 ((rd_T86 l0 x9_1).f4.f0), .int .i64 0]) ?_ 5 _ rfl; (with_reducible repeat (first | refine blk_drewN ?_ _ | refine blk_drew ?_ | refine blk_alloc ?_ _)); refine blk_put (cs := #[.bool (true), .string ((rd_T86 l0 x9_1).f1), .string ((rd_T86 l0 x9_1).f2), .int .i64 ((rd_T86 l0 x9_1).f3), .int .i64 0, .int .i64 0]) ?_ 4 _ rfl; (with_reducible repeat (first | refine blk_drewN ?_ _ | refine blk_drew ?_ | refine blk_alloc ?_ _)); refine blk_put (cs := #[.bool (true), .string ((rd_T86 l0 x9_1).f1), .string ((rd_T86 l0 x9_1).f2), .int .i64 0, .int .i64 0, .int .i64 0]) ?_ 3 _ rfl; (with_reducible repeat (first | refine blk_drewN ?_ _ | refine blk_drew ?_ | refine blk_alloc ?_ _)); refine blk_put (cs := #[.bool (true), .string ((rd_T86 l0 x9_1).f1), .string (⟨#[]⟩ : ByteArray), .int .i64 0, .int .i64 0, .int .i64 0]) ?_ 2 _ rfl; (with_reducible repeat (first | refine blk_drewN ?_ _ | refine blk_drew ?_ | refine blk_alloc ?_ _)); refine blk_put (cs := #[.bool (true), .string (⟨#[]⟩ : ByteArray), .string (⟨#[]⟩ : ByteArray), .int .i64 0, .int .i64 0, .int .i64 0]) ?_ 1 _ rfl; (with_reducible repeat (first | refine blk_drewN ?_ _ | refine blk_drew ?_ | refine blk_alloc ?_ _)); refine blk_put (cs := #[.bool false, .string (⟨#[]⟩ : ByteArray), .string (⟨#[]⟩ : ByteArray), .int .i64 0, .int .i64 0, .int .i64 0]) ?_ 0 _ rfl; (with_reducible repeat (first | refine blk_drewN ?_ _ | refine blk_drew ?_ | refine blk_alloc ?_ _)); exact BK310.out) hb); replace HB := Aside0.mk (below_step z15_2 hb); obtain ⟨hcz21_0, hcz21_1, hcz21_2, hcz21_3, hcz21_4, hcz21_5, hfz21_0, hfz21_1, hfz21_2, hfz21_3, hfz21_4, hfz21_5⟩ := bc6 BK310.out) | (go_at_call 107; (with_reducible refine (impl_NameOk.calls k1 ((rd_T86 l0 x9_1).f1) true _ A11.out).mono ?_); rintro e w' ⟨rfl, ⟨nd, rfl⟩⟩) | (go_at_call 107; (with_reducible refine (impl_NameOk.calls k1 ((rd_T86 l0 x9_1).f2) true _ A13.out).mono ?_); rintro e w' ⟨rfl, ⟨nd, rfl⟩⟩) | (go_at_call 106; (with_reducible refine (impl_within.calls ((rd_T86 l0 x9_1).f3) 0 999999 true _ A15.out).mono ?_); rintro e w' ⟨rfl, ⟨nd, rfl⟩⟩))
            go_meet
            case rel => (try rw [← Nbq17.out]); exact ⟨_, (false), z15_8, H', ⟨z15_9⟩, ⟨z15_4⟩, ⟨z15_2⟩⟩
           ·
            replace c18 := Bool.eq_false_iff.mpr c18
            subst c18
            rw [if_neg (show ¬ (false = true) by decide)] at H
            have H' := Aside0.mk H
            clear H
            obtain ⟨hcz22_0, hcz22_1, hcz22_2, hcz22_3, hcz22_4, hcz22_5, hfz22_0, hfz22_1, hfz22_2, hfz22_3, hfz22_4, hfz22_5⟩ := bc6 BK310.out
            go_wp2_with (first | ((with_reducible refine gate_callee (f := 73) rfl ?_); refine goesL_ (some 17) rfl rfl Try.func73 z15_6 rfl #[.slice A1 l1.length c1, .agg #[.int .i64 ((rd_T86 l0 x9_1).f4.f0), .int .i64 ((rd_T86 l0 x9_1).f4.f1)]] rfl z15_7 ?_; (with_reducible refine (impl_Knows.calls k1 _ _ l1 ((rd_T86 l0 x9_1).f4.f0) ((rd_T86 l0 x9_1).f4.f1) true _ ?side1 ?side2 A9.out).mono ?_); (case side1 => exact Kd.C_below HR1.out z15_2); (case side2 => exact HC1.out); rintro e w23 ⟨rfl, hb⟩; refine ⟨_, rfl, ?_⟩; replace BK310 := Aside0.mk (blk_below (g := gb310) (o := .cells #[.bool false, .string ((rd_T86 l0 x9_1).f1), .string ((rd_T86 l0 x9_1).f2), .int .i64 ((rd_T86 l0 x9_1).f3), .int .i64 ((rd_T86 l0 x9_1).f4.f0), .int .i64 ((rd_T86 l0 x9_1).f4.f1)] 86 (0, 0)) (by (with_reducible repeat (first | refine blk_drewN ?_ _ | refine blk_drew ?_ | refine blk_alloc ?_ _)); refine blk_put (cs := #[.bool (false), .string ((rd_T86 l0 x9_1).f1), .string ((rd_T86 l0 x9_1).f2), .int .i64 ((rd_T86 l0 x9_1).f3), .int .i64 ((rd_T86 l0 x9_1).f4.f0), .int .i64 0]) ?_ 5 _ rfl; (with_reducible repeat (first | refine blk_drewN ?_ _ | refine blk_drew ?_ | refine blk_alloc ?_ _)); refine blk_put (cs := #[.bool (false), .string ((rd_T86 l0 x9_1).f1), .string ((rd_T86 l0 x9_1).f2), .int .i64 ((rd_T86 l0 x9_1).f3), .int .i64 0, .int .i64 0]) ?_ 4 _ rfl; (with_reducible repeat (first | refine blk_drewN ?_ _ | refine blk_drew ?_ | refine blk_alloc ?_ _)); refine blk_put (cs := #[.bool (false), .string ((rd_T86 l0 x9_1).f1), .string ((rd_T86 l0 x9_1).f2), .int .i64 0, .int .i64 0, .int .i64 0]) ?_ 3 _ rfl; (with_reducible repeat (first | refine blk_drewN ?_ _ | refine blk_drew ?_ | refine blk_alloc ?_ _)); refine blk_put (cs := #[.bool (false), .string ((rd_T86 l0 x9_1).f1), .string (⟨#[]⟩ : ByteArray), .int .i64 0, .int .i64 0, .int .i64 0]) ?_ 2 _ rfl; (with_reducible repeat (first | refine blk_drewN ?_ _ | refine blk_drew ?_ | refine blk_alloc ?_ _)); refine blk_put (cs := #[.bool (false), .string (⟨#[]⟩ : ByteArray), .string (⟨#[]⟩ : ByteArray), .int .i64 0, .int .i64 0, .int .i64 0]) ?_ 1 _ rfl; (with_reducible repeat (first | refine blk_drewN ?_ _ | refine blk_drew ?_ | refine blk_alloc ?_ _)); refine blk_put (cs := #[.bool false, .string (⟨#[]⟩ : ByteArray), .string (⟨#[]⟩ : ByteArray), .int .i64 0, .int .i64 0, .int .i64 0]) ?_ 0 _ rfl; (with_reducible repeat (first | refine blk_drewN ?_ _ | refine blk_drew ?_ | refine blk_alloc ?_ _)); exact BK310.out) hb); replace HB := Aside0.mk (below_step z15_2 hb); obtain ⟨hcz24_0, hcz24_1, hcz24_2, hcz24_3, hcz24_4, hcz24_5, hfz24_0, hfz24_1, hfz24_2, hfz24_3, hfz24_4, hfz24_5⟩ := bc6 BK310.out) | (go_at_call 107; (with_reducible refine (impl_NameOk.calls k1 ((rd_T86 l0 x9_1).f1) true _ A11.out).mono ?_); rintro e w' ⟨rfl, ⟨nd, rfl⟩⟩) | (go_at_call 107; (with_reducible refine (impl_NameOk.calls k1 ((rd_T86 l0 x9_1).f2) true _ A13.out).mono ?_); rintro e w' ⟨rfl, ⟨nd, rfl⟩⟩) | (go_at_call 106; (with_reducible refine (impl_within.calls ((rd_T86 l0 x9_1).f3) 0 999999 true _ A15.out).mono ?_); rintro e w' ⟨rfl, ⟨nd, rfl⟩⟩))
            go_meet
            case rel => (try rw [← Nbq17.out]); exact ⟨_, ((((rd_T86 l0 x9_1).f3) != 0)), z15_8, H', ⟨z15_9⟩, ⟨z15_4⟩, ⟨z15_2⟩⟩
          ·
           replace c16 := Bool.eq_false_iff.mpr c16
           subst c16
           rw [if_neg (show ¬ (false = true) by decide)] at H
           have H' := Aside0.mk H
           clear H
           obtain ⟨hcz25_0, hcz25_1, hcz25_2, hcz25_3, hcz25_4, hcz25_5, hfz25_0, hfz25_1, hfz25_2, hfz25_3, hfz25_4, hfz25_5⟩ := bc6 BK310.out
           go_wp2_with (first | ((with_reducible refine gate_callee (f := 73) rfl ?_); refine goesL_ (some 17) rfl rfl Try.func73 z15_6 rfl #[.slice A1 l1.length c1, .agg #[.int .i64 ((rd_T86 l0 x9_1).f4.f0), .int .i64 ((rd_T86 l0 x9_1).f4.f1)]] rfl z15_7 ?_; (with_reducible refine (impl_Knows.calls k1 _ _ l1 ((rd_T86 l0 x9_1).f4.f0) ((rd_T86 l0 x9_1).f4.f1) true _ ?side1 ?side2 A9.out).mono ?_); (case side1 => exact Kd.C_below HR1.out z15_2); (case side2 => exact HC1.out); rintro e w26 ⟨rfl, hb⟩; refine ⟨_, rfl, ?_⟩; replace BK310 := Aside0.mk (blk_below (g := gb310) (o := .cells #[.bool ((rd_T86 l0 x9_1).f0), .string ((rd_T86 l0 x9_1).f1), .string ((rd_T86 l0 x9_1).f2), .int .i64 ((rd_T86 l0 x9_1).f3), .int .i64 ((rd_T86 l0 x9_1).f4.f0), .int .i64 ((rd_T86 l0 x9_1).f4.f1)] 86 (0, 0)) z15_0 hb); replace HB := Aside0.mk (below_step z15_2 hb); obtain ⟨hcz27_0, hcz27_1, hcz27_2, hcz27_3, hcz27_4, hcz27_5, hfz27_0, hfz27_1, hfz27_2, hfz27_3, hfz27_4, hfz27_5⟩ := bc6 BK310.out) | (go_at_call 107; (with_reducible refine (impl_NameOk.calls k1 ((rd_T86 l0 x9_1).f1) true _ A11.out).mono ?_); rintro e w' ⟨rfl, ⟨nd, rfl⟩⟩) | (go_at_call 107; (with_reducible refine (impl_NameOk.calls k1 ((rd_T86 l0 x9_1).f2) true _ A13.out).mono ?_); rintro e w' ⟨rfl, ⟨nd, rfl⟩⟩) | (go_at_call 106; (with_reducible refine (impl_within.calls ((rd_T86 l0 x9_1).f3) 0 999999 false _ A15.out).mono ?_); rintro e w' ⟨rfl, ⟨nd, rfl⟩⟩))
           go_meet
           case rel => exact ⟨_, (true), z15_8, H', ⟨z15_9⟩, ⟨z15_4⟩, ⟨z15_2⟩⟩
         ·
          replace c14 := Bool.eq_false_iff.mpr c14
          subst c14
          rw [if_neg (show ¬ (false = true) by decide)] at H
          have H' := Aside0.mk H
          clear H
          obtain ⟨hcz28_0, hcz28_1, hcz28_2, hcz28_3, hcz28_4, hcz28_5, hfz28_0, hfz28_1, hfz28_2, hfz28_3, hfz28_4, hfz28_5⟩ := bc6 BK310.out
          go_wp2_with (first | ((with_reducible refine gate_callee (f := 73) rfl ?_); refine goesL_ (some 17) rfl rfl Try.func73 z15_6 rfl #[.slice A1 l1.length c1, .agg #[.int .i64 ((rd_T86 l0 x9_1).f4.f0), .int .i64 ((rd_T86 l0 x9_1).f4.f1)]] rfl z15_7 ?_; (with_reducible refine (impl_Knows.calls k1 _ _ l1 ((rd_T86 l0 x9_1).f4.f0) ((rd_T86 l0 x9_1).f4.f1) true _ ?side1 ?side2 A9.out).mono ?_); (case side1 => exact Kd.C_below HR1.out z15_2); (case side2 => exact HC1.out); rintro e w29 ⟨rfl, hb⟩; refine ⟨_, rfl, ?_⟩; replace BK310 := Aside0.mk (blk_below (g := gb310) (o := .cells #[.bool ((rd_T86 l0 x9_1).f0), .string ((rd_T86 l0 x9_1).f1), .string ((rd_T86 l0 x9_1).f2), .int .i64 ((rd_T86 l0 x9_1).f3), .int .i64 ((rd_T86 l0 x9_1).f4.f0), .int .i64 ((rd_T86 l0 x9_1).f4.f1)] 86 (0, 0)) z15_0 hb); replace HB := Aside0.mk (below_step z15_2 hb); obtain ⟨hcz30_0, hcz30_1, hcz30_2, hcz30_3, hcz30_4, hcz30_5, hfz30_0, hfz30_1, hfz30_2, hfz30_3, hfz30_4, hfz30_5⟩ := bc6 BK310.out) | (go_at_call 107; (with_reducible refine (impl_NameOk.calls k1 ((rd_T86 l0 x9_1).f1) true _ A11.out).mono ?_); rintro e w' ⟨rfl, ⟨nd, rfl⟩⟩) | (go_at_call 107; (with_reducible refine (impl_NameOk.calls k1 ((rd_T86 l0 x9_1).f2) false _ A13.out).mono ?_); rintro e w' ⟨rfl, ⟨nd, rfl⟩⟩))
          go_meet
          case rel => exact ⟨_, (true), z15_8, H', ⟨z15_9⟩, ⟨z15_4⟩, ⟨z15_2⟩⟩
        ·
         replace c12 := Bool.eq_false_iff.mpr c12
         subst c12
         rw [if_neg (show ¬ (false = true) by decide)] at H
         have H' := Aside0.mk H
         clear H
         obtain ⟨hcz31_0, hcz31_1, hcz31_2, hcz31_3, hcz31_4, hcz31_5, hfz31_0, hfz31_1, hfz31_2, hfz31_3, hfz31_4, hfz31_5⟩ := bc6 BK310.out
         go_wp2_with (first | ((with_reducible refine gate_callee (f := 73) rfl ?_); refine goesL_ (some 17) rfl rfl Try.func73 z15_6 rfl #[.slice A1 l1.length c1, .agg #[.int .i64 ((rd_T86 l0 x9_1).f4.f0), .int .i64 ((rd_T86 l0 x9_1).f4.f1)]] rfl z15_7 ?_; (with_reducible refine (impl_Knows.calls k1 _ _ l1 ((rd_T86 l0 x9_1).f4.f0) ((rd_T86 l0 x9_1).f4.f1) true _ ?side1 ?side2 A9.out).mono ?_); (case side1 => exact Kd.C_below HR1.out z15_2); (case side2 => exact HC1.out); rintro e w32 ⟨rfl, hb⟩; refine ⟨_, rfl, ?_⟩; replace BK310 := Aside0.mk (blk_below (g := gb310) (o := .cells #[.bool ((rd_T86 l0 x9_1).f0), .string ((rd_T86 l0 x9_1).f1), .string ((rd_T86 l0 x9_1).f2), .int .i64 ((rd_T86 l0 x9_1).f3), .int .i64 ((rd_T86 l0 x9_1).f4.f0), .int .i64 ((rd_T86 l0 x9_1).f4.f1)] 86 (0, 0)) z15_0 hb); replace HB := Aside0.mk (below_step z15_2 hb); obtain ⟨hcz33_0, hcz33_1, hcz33_2, hcz33_3, hcz33_4, hcz33_5, hfz33_0, hfz33_1, hfz33_2, hfz33_3, hfz33_4, hfz33_5⟩ := bc6 BK310.out) | (go_at_call 107; (with_reducible refine (impl_NameOk.calls k1 ((rd_T86 l0 x9_1).f1) false _ A11.out).mono ?_); rintro e w' ⟨rfl, ⟨nd, rfl⟩⟩))
         go_meet
         case rel => exact ⟨_, (true), z15_8, H', ⟨z15_9⟩, ⟨z15_4⟩, ⟨z15_2⟩⟩
       ·
        replace c10 := Bool.eq_false_iff.mpr c10
        subst c10
        rw [if_neg (show ¬ (false = true) by decide)] at H
        have H' := Aside0.mk H
        clear H
        obtain ⟨hcz34_0, hcz34_1, hcz34_2, hcz34_3, hcz34_4, hcz34_5, hfz34_0, hfz34_1, hfz34_2, hfz34_3, hfz34_4, hfz34_5⟩ := bc6 BK310.out
        go_wp2_with (first | ((with_reducible refine gate_callee (f := 73) rfl ?_); refine goesL_ (some 17) rfl rfl Try.func73 z15_6 rfl #[.slice A1 l1.length c1, .agg #[.int .i64 ((rd_T86 l0 x9_1).f4.f0), .int .i64 ((rd_T86 l0 x9_1).f4.f1)]] rfl z15_7 ?_; (with_reducible refine (impl_Knows.calls k1 _ _ l1 ((rd_T86 l0 x9_1).f4.f0) ((rd_T86 l0 x9_1).f4.f1) false _ ?side1 ?side2 A9.out).mono ?_); (case side1 => exact Kd.C_below HR1.out z15_2); (case side2 => exact HC1.out); rintro e w35 ⟨rfl, hb⟩; refine ⟨_, rfl, ?_⟩; replace BK310 := Aside0.mk (blk_below (g := gb310) (o := .cells #[.bool ((rd_T86 l0 x9_1).f0), .string ((rd_T86 l0 x9_1).f1), .string ((rd_T86 l0 x9_1).f2), .int .i64 ((rd_T86 l0 x9_1).f3), .int .i64 ((rd_T86 l0 x9_1).f4.f0), .int .i64 ((rd_T86 l0 x9_1).f4.f1)] 86 (0, 0)) z15_0 hb); replace HB := Aside0.mk (below_step z15_2 hb)))
        go_meet
        case rel => exact ⟨_, (true), z15_8, H', ⟨z15_9⟩, ⟨z15_4⟩, ⟨z15_2⟩⟩
      case rest =>
       clear HC6
       try clear c1
       try clear q1
       try clear p2
       try clear c3
       try clear c3b0
       try clear p3
       try clear q3
       try clear hx3
       try clear c4
       try clear c4b0
       try clear c5
       try clear c5b0
       try clear c6
       try clear c7
       try clear c10
       try clear c12
       try clear c14
       try clear c16
       try clear q17
       try clear c18
       try clear p30
       try clear q30
       try clear hx30
       try clear hcz19_0
       try clear hcz19_1
       try clear hcz19_2
       try clear hcz19_3
       try clear hcz19_4
       try clear hcz19_5
       try clear hcz21_0
       try clear hcz21_1
       try clear hcz21_2
       try clear hcz21_3
       try clear hcz21_4
       try clear hcz21_5
       try clear hcz22_0
       try clear hcz22_1
       try clear hcz22_2
       try clear hcz22_3
       try clear hcz22_4
       try clear hcz22_5
       try clear hcz24_0
       try clear hcz24_1
       try clear hcz24_2
       try clear hcz24_3
       try clear hcz24_4
       try clear hcz24_5
       try clear hcz25_0
       try clear hcz25_1
       try clear hcz25_2
       try clear hcz25_3
       try clear hcz25_4
       try clear hcz25_5
       try clear hcz27_0
       try clear hcz27_1
       try clear hcz27_2
       try clear hcz27_3
       try clear hcz27_4
       try clear hcz27_5
       try clear hcz28_0
       try clear hcz28_1
       try clear hcz28_2
       try clear hcz28_3
       try clear hcz28_4
       try clear hcz28_5
       try clear hcz30_0
       try clear hcz30_1
       try clear hcz30_2
       try clear hcz30_3
       try clear hcz30_4
       try clear hcz30_5
       try clear hcz31_0
       try clear hcz31_1
       try clear hcz31_2
       try clear hcz31_3
       try clear hcz31_4
       try clear hcz31_5
       try clear hcz33_0
       try clear hcz33_1
       try clear hcz33_2
       try clear hcz33_3
       try clear hcz33_4
       try clear hcz33_5
       try clear hcz34_0
       try clear hcz34_1
       try clear hcz34_2
       try clear hcz34_3
       try clear hcz34_4
       try clear hcz34_5
       try clear hcz8_0
       try clear hcz8_1
       try clear hcz8_2
       try clear hcz8_3
       try clear hcz8_4
       try clear hcz8_5
       try clear hfz19_0
       try clear hfz19_1
       try clear hfz19_2
       try clear hfz19_3
       try clear hfz19_4
       try clear hfz19_5
       try clear hfz21_0
       try clear hfz21_1
       try clear hfz21_2
       try clear hfz21_3
       try clear hfz21_4
       try clear hfz21_5
       try clear hfz22_0
       try clear hfz22_1
       try clear hfz22_2
       try clear hfz22_3
       try clear hfz22_4
       try clear hfz22_5
       try clear hfz24_0
       try clear hfz24_1
       try clear hfz24_2
       try clear hfz24_3
       try clear hfz24_4
       try clear hfz24_5
       try clear hfz25_0
       try clear hfz25_1
       try clear hfz25_2
       try clear hfz25_3
       try clear hfz25_4
       try clear hfz25_5
       try clear hfz27_0
       try clear hfz27_1
       try clear hfz27_2
       try clear hfz27_3
       try clear hfz27_4
       try clear hfz27_5
       try clear hfz28_0
       try clear hfz28_1
       try clear hfz28_2
       try clear hfz28_3
       try clear hfz28_4
       try clear hfz28_5
       try clear hfz30_0
       try clear hfz30_1
       try clear hfz30_2
       try clear hfz30_3
       try clear hfz30_4
       try clear hfz30_5
       try clear hfz31_0
       try clear hfz31_1
       try clear hfz31_2
       try clear hfz31_3
       try clear hfz31_4
       try clear hfz31_5
       try clear hfz33_0
       try clear hfz33_1
       try clear hfz33_2
       try clear hfz33_3
       try clear hfz33_4
       try clear hfz33_5
       try clear hfz34_0
       try clear hfz34_1
       try clear hfz34_2
       try clear hfz34_3
       try clear hfz34_4
       try clear hfz34_5
       try clear hfz8_0
       try clear hfz8_1
       try clear hfz8_2
       try clear hfz8_3
       try clear hfz8_4
       try clear hfz8_5
       try clear hx309_0
       try clear hx309_1
       try clear hx309_2
       try clear hx309_3
       try clear hx309_4
       try clear hx309_5
       try clear p2
       try clear p309
       try clear q309
       obtain ⟨kq, x46_5, rfl, HA, HJ5, BK310, HB⟩ := hcut
       cases kq with
       | zero => exact absurd HA.out (by simp [impl_livesOk.j1])
       | succ kj5 =>
        have H := HA.out
        clear HA
        simp only [impl_livesOk.j1] at H
        by_cases c36 : x46_5 = true
        ·
         subst c36
         rw [if_pos rfl] at H
         obtain rfl := Option.some.inj H
         go_wp2
         go_ret
         exact ⟨by first | rfl | (simp [errW_none, errW_some] <;> rfl) | (simp [*, errW_none, errW_some] <;> rfl), z15_2⟩
        ·
         replace c36 := Bool.eq_false_iff.mpr c36
         subst c36
         rw [if_neg (show ¬ (false = true) by decide)] at H
         by_cases c37 : x9_1 > 0
         ·
          rw [if_pos c37] at H
          have c37b0 : decide (0 < x9_1) = true := decide_eq_true c37
          clear c37
          obtain ⟨ji38, hji38⟩ : ∃ j_ : Int, (wrap64 (x9_1 - 1)) = j_ := ⟨_, rfl⟩
          replace H : (if 0 ≤ (ji38) then (if (ji38) < (l0.length : Int) then ((impl_compareDots.f kj5 ((rd_T86 l0 (ji38)).f4.f0) ((rd_T86 l0 (ji38)).f4.f1) ((rd_T86 l0 x9_1).f4.f0) ((rd_T86 l0 x9_1).f4.f1)).bind fun t316 => (if t316 ≥ 0 then (some false) else (impl_livesOk.l0 kj5 l0 l1 l0 (l0.length : Int) (wrap64 (x9_1 + 1))))) else (none)) else (none)) = some r := by first | (rw [hji38] at H; exact H) | (simp only [hji38] at H ⊢; exact H)
          have hji38w : (IntKind.i64.wrap (x9_1 - 1)) = ji38 := (i64_w _).trans hji38
          by_cases c39 : 0 ≤ (ji38)
          ·
           rw [if_pos c39] at H
           have c39b0 : decide (0 ≤ (ji38)) = true := decide_eq_true c39
           clear c39
           by_cases c40 : (ji38) < (l0.length : Int)
           ·
            rw [if_pos c40] at H
            have c40b0 : decide ((ji38) < (l0.length : Int)) = true := decide_eq_true c40
            clear c40
            replace H := Option.bind_eq_some_iff.mp H
            obtain ⟨t316, A410, H⟩ := H
            (try dsimp only at H)
            have A41 := Aside0.mk A410
            clear A410
            by_cases c42 : t316 ≥ 0
            ·
             rw [if_pos c42] at H
             have c42b0 : decide (0 ≤ t316) = true := decide_eq_true c42
             clear c42
             obtain rfl := Option.some.inj H
             try go_wp2
             replace BK310 := Aside0.mk (blk_drew BK310.out)
             replace HB := Aside0.mk (below_drew1 HB.out)
             have p315 : 0 ≤ ((ji38) : Int) := of_decide_eq_true z15_10
             have q315 : (ji38) < (l0.length : Int) := of_decide_eq_true z15_10
             obtain ⟨ad315, e315, hx315_0, hx315_1, hx315_2, hx315_3, hx315_4, hx315_5⟩ := at_T86 HR0.out (ji38) p315 q315
             have hw315_5 := hx315_5
             have hw315_4 := hx315_4
             have hw315_3 := hx315_3
             have hw315_2 := hx315_2
             have hw315_1 := hx315_1
             have hw315_0 := hx315_0
             obtain rfl : ad309 = ad315 := (by injection e315)
             replace hx315_0 := cb_ HB hx315_0
             replace hx315_1 := cb_ HB hx315_1
             replace hx315_2 := cb_ HB hx315_2
             replace hx315_3 := cb_ HB hx315_3
             replace hx315_4 := cb_ HB hx315_4
             replace hx315_5 := cb_ HB hx315_5
             replace p315 := eq_true p315
             replace q315 := eq_true q315
             refine start_ (n := 14) (S := fun w' => w'.cell? ⟨gb310, 0, none⟩ = some (.bool ((rd_T86 l0 x9_1).f0)) ∧ w'.cell? ⟨gb310, 1, none⟩ = some (.string ((rd_T86 l0 x9_1).f1)) ∧ w'.cell? ⟨gb310, 2, none⟩ = some (.string ((rd_T86 l0 x9_1).f2)) ∧ w'.cell? ⟨gb310, 3, none⟩ = some (.int .i64 ((rd_T86 l0 x9_1).f3)) ∧ w'.cell? ⟨gb310, 4, none⟩ = some (.int .i64 ((rd_T86 l0 x9_1).f4.f0)) ∧ w'.cell? ⟨gb310, 5, none⟩ = some (.int .i64 ((rd_T86 l0 x9_1).f4.f1)) ∧ w'.cell? (ad309.add (((ji38)).toNat * 6)) = some (.bool ((rd_T86 l0 (ji38)).f0)) ∧ w'.cell? ⟨(ad309.add (((ji38)).toNat * 6)).block, (ad309.add (((ji38)).toNat * 6)).off + 1, none⟩ = some (.string ((rd_T86 l0 (ji38)).f1)) ∧ w'.cell? ⟨(ad309.add (((ji38)).toNat * 6)).block, (ad309.add (((ji38)).toNat * 6)).off + 2, none⟩ = some (.string ((rd_T86 l0 (ji38)).f2)) ∧ w'.cell? ⟨(ad309.add (((ji38)).toNat * 6)).block, (ad309.add (((ji38)).toNat * 6)).off + 3, none⟩ = some (.int .i64 ((rd_T86 l0 (ji38)).f3)) ∧ w'.cell? ⟨(ad309.add (((ji38)).toNat * 6)).block, (ad309.add (((ji38)).toNat * 6)).off + 4, none⟩ = some (.int .i64 ((rd_T86 l0 (ji38)).f4.f0)) ∧ w'.cell? ⟨(ad309.add (((ji38)).toNat * 6)).block, (ad309.add (((ji38)).toNat * 6)).off + 5, none⟩ = some (.int .i64 ((rd_T86 l0 (ji38)).f4.f1))) (ds := []) mk15_0 z15_6 rfl rfl ⟨bc_ BK310 0, bc_ BK310 1, bc_ BK310 2, bc_ BK310 3, bc_ BK310 4, bc_ BK310 5, (cb_ HB hw315_0), (cb_ HB hw315_1), (cb_ HB hw315_2), (cb_ HB hw315_3), (cb_ HB hw315_4), (cb_ HB hw315_5)⟩ (fun hHeld => ?_); refine with_tabW impl_livesOk.tab6 impl_livesOk.bits6 (fun HT_ HW_ => ?_)
             generalize wc.drew = w43 at BK310 HB hx315_0 hx315_1 hx315_2 hx315_3 hx315_4 hx315_5 hHeld ⊢
             refine p_ (i := 0) (N := some 47) mk15_1 ?_ (hv := z15_3) (ha := z15_1)
             refine p_ (i := 1) (N := some 48) mk15_2 ?_ (hv := z15_3) (ha := z15_1)
             refine p_ (i := 2) (N := some 49) mk15_3 ?_ (hv := z15_3) (ha := z15_1)
             refine p_ (i := 3) (N := some 50) mk15_4 ?_ (hv := z15_3) (ha := z15_1)
             refine p_ (i := 4) (N := some 51) mk15_5 ?_ (hv := z15_3) (ha := z15_1)
             refine p_ (i := 5) (N := some 52) mk15_6 ?_ (hv := z15_3) (ha := z15_1)
             refine p_ (i := 6) (N := some 53) mk15_7 ?_ (hv := z15_3) (ha := z15_1)
             refine p_ (i := 7) (N := some 54) mk15_8 ?_ (hv := z15_3) (ha := z15_1)
             refine p_ (i := 9) (N := some 56) mk15_9 ?_ (hv := z15_3) (ha := z15_1)
             refine t_ (i := 8) (N := some 55) mk15_10 hHeld ?_ (hv := by rintro w' ⟨s0, s1, s2, s3, s4, s5, s6, s7, s8, s9, s10, s11⟩; go_simp; with_reducible rfl) (ha := z15_1)
             refine t_ (i := 10) (N := some 57) mk15_11 hHeld ?_ (hv := by rintro w' ⟨s0, s1, s2, s3, s4, s5, s6, s7, s8, s9, s10, s11⟩; go_simp; with_reducible rfl) (ha := z15_1)
             refine o_ (i := 11) (N := some 58) mk15_12 (fun K hK => ?_)
             refine goes_ Try.func109 z15_6 rfl #[.agg #[.int .i64 ((rd_T86 l0 (ji38)).f4.f0), .int .i64 ((rd_T86 l0 (ji38)).f4.f1)], .agg #[.int .i64 ((rd_T86 l0 x9_1).f4.f0), .int .i64 ((rd_T86 l0 x9_1).f4.f1)]] (by rfl) rfl rfl z15_11 ?_
             with_reducible refine (impl_compareDots.calls kj5 ((rd_T86 l0 (ji38)).f4.f0) ((rd_T86 l0 (ji38)).f4.f1) ((rd_T86 l0 x9_1).f4.f0) ((rd_T86 l0 x9_1).f4.f1) t316 _ A41.out).mono ?_
             rintro e w44 ⟨rfl, hb⟩
             refine ⟨_, rfl, ?_⟩
             replace BK310 := Aside0.mk (blk_below (g := gb310) (o := .cells #[.bool ((rd_T86 l0 x9_1).f0), .string ((rd_T86 l0 x9_1).f1), .string ((rd_T86 l0 x9_1).f2), .int .i64 ((rd_T86 l0 x9_1).f3), .int .i64 ((rd_T86 l0 x9_1).f4.f0), .int .i64 ((rd_T86 l0 x9_1).f4.f1)] 86 (0, 0)) z15_4 hb)
             replace HB := Aside0.mk (below_step z15_2 hb)
             (try clear hb)
             (try clear hb2)
             (try clear hk)
             (try clear hi)
             refine hK.out _ _ ⟨bc_ BK310 0, bc_ BK310 1, bc_ BK310 2, bc_ BK310 3, bc_ BK310 4, bc_ BK310 5, (cb_ HB hw315_0), (cb_ HB hw315_1), (cb_ HB hw315_2), (cb_ HB hw315_3), (cb_ HB hw315_4), (cb_ HB hw315_5)⟩ (fun hHeld => ?_)
             clear hK K
             refine n_ ?_
             refine p_ (i := 12) (N := some 59) mk15_13 ?_ (hv := z15_3) (ha := z15_1)
             refine p_ (i := 13) (N := some 60) mk15_14 ?_ (hv := z15_3) (ha := z15_1)
             refine done_ (done_of HT_.out z15_6) ?_
             try go_wp2
             go_ret
             exact ⟨by first | rfl | (simp [errW_none, errW_some] <;> rfl) | (simp only [← hji38]; first | rfl | (simp [errW_none, errW_some] <;> rfl)) | (simp [*, errW_none, errW_some] <;> rfl), z15_2⟩
            ·
             rw [if_neg c42] at H
             have c42b0 : decide (0 ≤ t316) = false := decide_eq_false c42
             clear c42
             have H' := Aside0.mk H
             clear H
             try go_wp2
             replace BK310 := Aside0.mk (blk_drew BK310.out)
             replace HB := Aside0.mk (below_drew1 HB.out)
             have p315 : 0 ≤ ((ji38) : Int) := of_decide_eq_true z15_10
             have q315 : (ji38) < (l0.length : Int) := of_decide_eq_true z15_10
             obtain ⟨ad315, e315, hx315_0, hx315_1, hx315_2, hx315_3, hx315_4, hx315_5⟩ := at_T86 HR0.out (ji38) p315 q315
             have hw315_5 := hx315_5
             have hw315_4 := hx315_4
             have hw315_3 := hx315_3
             have hw315_2 := hx315_2
             have hw315_1 := hx315_1
             have hw315_0 := hx315_0
             obtain rfl : ad309 = ad315 := (by injection e315)
             replace hx315_0 := cb_ HB hx315_0
             replace hx315_1 := cb_ HB hx315_1
             replace hx315_2 := cb_ HB hx315_2
             replace hx315_3 := cb_ HB hx315_3
             replace hx315_4 := cb_ HB hx315_4
             replace hx315_5 := cb_ HB hx315_5
             replace p315 := eq_true p315
             replace q315 := eq_true q315
             refine start_ (n := 14) (S := fun w' => w'.cell? ⟨gb310, 0, none⟩ = some (.bool ((rd_T86 l0 x9_1).f0)) ∧ w'.cell? ⟨gb310, 1, none⟩ = some (.string ((rd_T86 l0 x9_1).f1)) ∧ w'.cell? ⟨gb310, 2, none⟩ = some (.string ((rd_T86 l0 x9_1).f2)) ∧ w'.cell? ⟨gb310, 3, none⟩ = some (.int .i64 ((rd_T86 l0 x9_1).f3)) ∧ w'.cell? ⟨gb310, 4, none⟩ = some (.int .i64 ((rd_T86 l0 x9_1).f4.f0)) ∧ w'.cell? ⟨gb310, 5, none⟩ = some (.int .i64 ((rd_T86 l0 x9_1).f4.f1)) ∧ w'.cell? (ad309.add (((ji38)).toNat * 6)) = some (.bool ((rd_T86 l0 (ji38)).f0)) ∧ w'.cell? ⟨(ad309.add (((ji38)).toNat * 6)).block, (ad309.add (((ji38)).toNat * 6)).off + 1, none⟩ = some (.string ((rd_T86 l0 (ji38)).f1)) ∧ w'.cell? ⟨(ad309.add (((ji38)).toNat * 6)).block, (ad309.add (((ji38)).toNat * 6)).off + 2, none⟩ = some (.string ((rd_T86 l0 (ji38)).f2)) ∧ w'.cell? ⟨(ad309.add (((ji38)).toNat * 6)).block, (ad309.add (((ji38)).toNat * 6)).off + 3, none⟩ = some (.int .i64 ((rd_T86 l0 (ji38)).f3)) ∧ w'.cell? ⟨(ad309.add (((ji38)).toNat * 6)).block, (ad309.add (((ji38)).toNat * 6)).off + 4, none⟩ = some (.int .i64 ((rd_T86 l0 (ji38)).f4.f0)) ∧ w'.cell? ⟨(ad309.add (((ji38)).toNat * 6)).block, (ad309.add (((ji38)).toNat * 6)).off + 5, none⟩ = some (.int .i64 ((rd_T86 l0 (ji38)).f4.f1))) (ds := []) mk15_0 z15_6 rfl rfl ⟨bc_ BK310 0, bc_ BK310 1, bc_ BK310 2, bc_ BK310 3, bc_ BK310 4, bc_ BK310 5, (cb_ HB hw315_0), (cb_ HB hw315_1), (cb_ HB hw315_2), (cb_ HB hw315_3), (cb_ HB hw315_4), (cb_ HB hw315_5)⟩ (fun hHeld => ?_); refine with_tabW impl_livesOk.tab6 impl_livesOk.bits6 (fun HT_ HW_ => ?_)
             generalize wc.drew = w45 at BK310 HB hx315_0 hx315_1 hx315_2 hx315_3 hx315_4 hx315_5 hHeld ⊢
             refine p_ (i := 0) (N := some 47) mk15_1 ?_ (hv := z15_3) (ha := z15_1)
             refine p_ (i := 1) (N := some 48) mk15_2 ?_ (hv := z15_3) (ha := z15_1)
             refine p_ (i := 2) (N := some 49) mk15_3 ?_ (hv := z15_3) (ha := z15_1)
             refine p_ (i := 3) (N := some 50) mk15_4 ?_ (hv := z15_3) (ha := z15_1)
             refine p_ (i := 4) (N := some 51) mk15_5 ?_ (hv := z15_3) (ha := z15_1)
             refine p_ (i := 5) (N := some 52) mk15_6 ?_ (hv := z15_3) (ha := z15_1)
             refine p_ (i := 6) (N := some 53) mk15_7 ?_ (hv := z15_3) (ha := z15_1)
             refine p_ (i := 7) (N := some 54) mk15_8 ?_ (hv := z15_3) (ha := z15_1)
             refine p_ (i := 9) (N := some 56) mk15_9 ?_ (hv := z15_3) (ha := z15_1)
             refine t_ (i := 8) (N := some 55) mk15_10 hHeld ?_ (hv := by rintro w' ⟨s0, s1, s2, s3, s4, s5, s6, s7, s8, s9, s10, s11⟩; go_simp; with_reducible rfl) (ha := z15_1)
             refine t_ (i := 10) (N := some 57) mk15_11 hHeld ?_ (hv := by rintro w' ⟨s0, s1, s2, s3, s4, s5, s6, s7, s8, s9, s10, s11⟩; go_simp; with_reducible rfl) (ha := z15_1)
             refine o_ (i := 11) (N := some 58) mk15_12 (fun K hK => ?_)
             refine goes_ Try.func109 z15_6 rfl #[.agg #[.int .i64 ((rd_T86 l0 (ji38)).f4.f0), .int .i64 ((rd_T86 l0 (ji38)).f4.f1)], .agg #[.int .i64 ((rd_T86 l0 x9_1).f4.f0), .int .i64 ((rd_T86 l0 x9_1).f4.f1)]] (by rfl) rfl rfl z15_11 ?_
             with_reducible refine (impl_compareDots.calls kj5 ((rd_T86 l0 (ji38)).f4.f0) ((rd_T86 l0 (ji38)).f4.f1) ((rd_T86 l0 x9_1).f4.f0) ((rd_T86 l0 x9_1).f4.f1) t316 _ A41.out).mono ?_
             rintro e w46 ⟨rfl, hb⟩
             refine ⟨_, rfl, ?_⟩
             replace BK310 := Aside0.mk (blk_below (g := gb310) (o := .cells #[.bool ((rd_T86 l0 x9_1).f0), .string ((rd_T86 l0 x9_1).f1), .string ((rd_T86 l0 x9_1).f2), .int .i64 ((rd_T86 l0 x9_1).f3), .int .i64 ((rd_T86 l0 x9_1).f4.f0), .int .i64 ((rd_T86 l0 x9_1).f4.f1)] 86 (0, 0)) z15_4 hb)
             replace HB := Aside0.mk (below_step z15_2 hb)
             (try clear hb)
             (try clear hb2)
             (try clear hk)
             (try clear hi)
             refine hK.out _ _ ⟨bc_ BK310 0, bc_ BK310 1, bc_ BK310 2, bc_ BK310 3, bc_ BK310 4, bc_ BK310 5, (cb_ HB hw315_0), (cb_ HB hw315_1), (cb_ HB hw315_2), (cb_ HB hw315_3), (cb_ HB hw315_4), (cb_ HB hw315_5)⟩ (fun hHeld => ?_)
             clear hK K
             refine n_ ?_
             refine p_ (i := 12) (N := some 59) mk15_13 ?_ (hv := z15_3) (ha := z15_1)
             refine p_ (i := 13) (N := some 60) mk15_14 ?_ (hv := z15_3) (ha := z15_1)
             refine done_ (done_of HT_.out z15_6) ?_
             try go_wp2
             go_roundg kj5
             case measure => have := HK1.out; have := HJ5.out; omega
             case rel => exact ⟨(wrap64 (x9_1 + 1)), z15_8, H', ⟨by have := HK1.out; have := HJ5.out; omega⟩, ⟨z15_2⟩⟩
           ·
            rw [if_neg c40] at H
            exact absurd H (by simp)
          ·
           rw [if_neg c39] at H
           exact absurd H (by simp)
         ·
          rw [if_neg c37] at H
          have c37b0 : decide (0 < x9_1) = false := decide_eq_false c37
          clear c37
          have H' := Aside0.mk H
          clear H
          try go_wp2
          replace BK310 := Aside0.mk (blk_drew BK310.out)
          replace HB := Aside0.mk (below_drew1 HB.out)
          refine start_ (n := 14) (S := fun w' => True) (ds := []) mk15_0 z15_6 rfl rfl trivial (fun hHeld => ?_); refine with_tabW impl_livesOk.tab6 impl_livesOk.bits6 (fun HT_ HW_ => ?_)
          generalize wc.drew = w47 at BK310 HB hHeld ⊢
          refine p_ (i := 0) (N := some 47) mk15_1 ?_ (hv := z15_3) (ha := z15_1)
          refine p_ (i := 1) (N := some 48) mk15_2 ?_ (hv := z15_3) (ha := z15_1)
          refine p_ (i := 2) (N := some 49) mk15_3 ?_ (hv := z15_3) (ha := z15_1)
          refine u_ (i := 3) (N := some 50) mk15_4 ?_ (ha := z15_1)
          refine u_ (i := 4) (N := some 51) mk15_5 ?_ (ha := z15_1)
          refine u_ (i := 5) (N := some 52) mk15_6 ?_ (ha := z15_1)
          refine u_ (i := 6) (N := some 53) mk15_7 ?_ (ha := z15_1)
          refine u_ (i := 7) (N := some 54) mk15_8 ?_ (ha := z15_1)
          refine u_ (i := 8) (N := some 55) mk15_15 ?_ (ha := z15_1)
          refine u_ (i := 9) (N := some 56) mk15_10 ?_ (ha := z15_1)
          refine u_ (i := 10) (N := some 57) mk15_11 ?_ (ha := z15_1)
          refine u_ (i := 11) (N := some 58) mk15_12 ?_ (ha := z15_1)
          refine u_ (i := 12) (N := some 59) mk15_13 ?_ (ha := z15_1)
          refine p_ (i := 13) (N := some 60) mk15_14 ?_ (hv := z15_3) (ha := z15_1)
          refine done_ (done_of HT_.out z15_6) ?_
          try go_wp2
          go_roundg kj5
          case measure => have := HK1.out; have := HJ5.out; omega
          case rel => exact ⟨(wrap64 (x9_1 + 1)), z15_8, H', ⟨by have := HK1.out; have := HJ5.out; omega⟩, ⟨z15_2⟩⟩
     ·
      rw [if_neg c5] at H
      exact absurd H (by simp)
    ·
     rw [if_neg c4] at H
     exact absurd H (by simp)
   ·
    rw [if_neg c3] at H
    have c3b0 : decide (x9_1 < (l0.length : Int)) = false := decide_eq_false c3
    clear c3
    obtain rfl := Option.some.inj H
    go_wp2
    go_ret
    exact ⟨by first | rfl | (simp [errW_none, errW_some] <;> rfl) | (simp [*, errW_none, errW_some] <;> rfl), z15_5⟩
end Go.Proofs.Ytbanogkoaplcdaa.QSOk
