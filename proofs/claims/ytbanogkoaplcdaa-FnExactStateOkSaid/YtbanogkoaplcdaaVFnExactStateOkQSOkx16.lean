/- What the functions behind SOk compute, and that the program's calls come to just that. Written by a program of this session on the base of the kit's print. No condition. -/
import Derived.Test.YtbanogkoaplcdaaVFnExactStateOkShort
import Derived.Test.YtbanogkoaplcdaaVFnExactStateOkQSOkx0
import Derived.Test.YtbanogkoaplcdaaVFnExactStateOkQSOkx12
import Derived.Test.YtbanogkoaplcdaaVFnExactStateOkQSOkx14
namespace Go.Proofs.Ytbanogkoaplcdaa.QSOk
open Go.RowKit Go.Proofs.Ytbanogkoaplcdaa.Short Go.Proofs.YtbanogkoaplcdaaW.PrintWords Go.Proofs.YtbanogkoaplcdaaW.PrintLast Go.Proofs.YtbanogkoaplcdaaW.PrintMore
attribute [local go_sem] max2_int min2_int max_two min_two max_three min_three max_four min_four   -- for this text's walks alone
set_option linter.unusedVariables false
set_option linter.unusedSimpArgs false
theorem z16_11 {P : Prop} (h : P := by have := HK1.out; first | omega | exact Nat.le_refl _) : P := h
theorem z16_10 {P : Prop} (h : P := by (try simp only [List.map_toArray, List.map_cons, List.map_nil]); first | done | (simp only [hji29]; rfl) | rfl | (simp only [List.length_drop, List.length_take]; rfl)) : P := h
theorem z16_9 {P : Prop} (h : P := by first | (with_reducible assumption) | assumption) : P := h
theorem z16_8 {P : Prop} (h : P := by first | rfl | (simp; done) | (simp [*]; done)) : P := h
theorem z16_7 {P : Prop} (h : P := by first | rfl | (simp only [List.map_toArray, List.map_cons, List.map_nil]; first | done | rfl)) : P := h
theorem z16_6 {P : Prop} (h : P := by kernel_rfl) : P := h
theorem z16_5 {P : Prop} (h : P := by repeat (first | (with_reducible first | exact HB.out | apply below_alloc | apply pw_below_drewN | apply below_drew1) | exact HB.out)) : P := h
theorem z16_4 {P : Prop} (h : P := by (with_reducible repeat (first | refine blk_drewN ?_ _ | refine blk_drew ?_ | refine blk_alloc ?_ _)); exact BK318.out) : P := h
theorem z16_3 {P : Prop} (h : P := by intro w'; go_simp; with_reducible rfl) : P := h
theorem z16_2 {P : Prop} (h : P := by repeat (first | (with_reducible first | exact HB.out | apply below_alloc | apply pw_below_drewN | apply below_drew1 | refine below_set ?_ GE318.out) | exact HB.out)) : P := h
theorem z16_1 {P : Prop} (h : P := by simp only [Act.put, List.setIfInBounds_toArray, List.set_cons_zero, List.set_cons_succ, i64_w, i32_w]; rfl) : P := h
theorem z16_0 {P : Prop} (h : P := by (with_reducible repeat (first | refine blk_drewN ?_ _ | refine blk_drew ?_ | refine blk_alloc ?_ _)); refine blk_put (cs := #[.string ((rd_T73 l0 x9_1).f0), .int .i64 ((rd_T73 l0 x9_1).f1.f0), .int .i64 ((rd_T73 l0 x9_1).f1.f1), .int .i64 ((rd_T73 l0 x9_1).f2), .int .i64 ((rd_T73 l0 x9_1).f3.f0), .int .i64 ((rd_T73 l0 x9_1).f3.f1), .int .i64 ((rd_T73 l0 x9_1).f4), .bool false]) ?_ 7 _ rfl; (with_reducible repeat (first | refine blk_drewN ?_ _ | refine blk_drew ?_ | refine blk_alloc ?_ _)); refine blk_put (cs := #[.string ((rd_T73 l0 x9_1).f0), .int .i64 ((rd_T73 l0 x9_1).f1.f0), .int .i64 ((rd_T73 l0 x9_1).f1.f1), .int .i64 ((rd_T73 l0 x9_1).f2), .int .i64 ((rd_T73 l0 x9_1).f3.f0), .int .i64 ((rd_T73 l0 x9_1).f3.f1), .int .i64 0, .bool false]) ?_ 6 _ rfl; (with_reducible repeat (first | refine blk_drewN ?_ _ | refine blk_drew ?_ | refine blk_alloc ?_ _)); refine blk_put (cs := #[.string ((rd_T73 l0 x9_1).f0), .int .i64 ((rd_T73 l0 x9_1).f1.f0), .int .i64 ((rd_T73 l0 x9_1).f1.f1), .int .i64 ((rd_T73 l0 x9_1).f2), .int .i64 ((rd_T73 l0 x9_1).f3.f0), .int .i64 0, .int .i64 0, .bool false]) ?_ 5 _ rfl; (with_reducible repeat (first | refine blk_drewN ?_ _ | refine blk_drew ?_ | refine blk_alloc ?_ _)); refine blk_put (cs := #[.string ((rd_T73 l0 x9_1).f0), .int .i64 ((rd_T73 l0 x9_1).f1.f0), .int .i64 ((rd_T73 l0 x9_1).f1.f1), .int .i64 ((rd_T73 l0 x9_1).f2), .int .i64 0, .int .i64 0, .int .i64 0, .bool false]) ?_ 4 _ rfl; (with_reducible repeat (first | refine blk_drewN ?_ _ | refine blk_drew ?_ | refine blk_alloc ?_ _)); refine blk_put (cs := #[.string ((rd_T73 l0 x9_1).f0), .int .i64 ((rd_T73 l0 x9_1).f1.f0), .int .i64 ((rd_T73 l0 x9_1).f1.f1), .int .i64 0, .int .i64 0, .int .i64 0, .int .i64 0, .bool false]) ?_ 3 _ rfl; (with_reducible repeat (first | refine blk_drewN ?_ _ | refine blk_drew ?_ | refine blk_alloc ?_ _)); refine blk_put (cs := #[.string ((rd_T73 l0 x9_1).f0), .int .i64 ((rd_T73 l0 x9_1).f1.f0), .int .i64 0, .int .i64 0, .int .i64 0, .int .i64 0, .int .i64 0, .bool false]) ?_ 2 _ rfl; (with_reducible repeat (first | refine blk_drewN ?_ _ | refine blk_drew ?_ | refine blk_alloc ?_ _)); refine blk_put (cs := #[.string ((rd_T73 l0 x9_1).f0), .int .i64 0, .int .i64 0, .int .i64 0, .int .i64 0, .int .i64 0, .int .i64 0, .bool false]) ?_ 1 _ rfl; (with_reducible repeat (first | refine blk_drewN ?_ _ | refine blk_drew ?_ | refine blk_alloc ?_ _)); refine blk_put (cs := #[.string (⟨#[]⟩ : ByteArray), .int .i64 0, .int .i64 0, .int .i64 0, .int .i64 0, .int .i64 0, .int .i64 0, .bool false]) ?_ 0 _ rfl; (with_reducible repeat (first | refine blk_drewN ?_ _ | refine blk_drew ?_ | refine blk_alloc ?_ _)); exact BK318.out) : P := h
abbrev mk16_0 : Array Bool := #[false, false, false, false, false, false, false, false, false, false, false, false, false, false]
abbrev mk16_1 : Array Bool := #[true, false, false, false, false, false, false, false, false, false, false, false, false, false]
abbrev mk16_2 : Array Bool := #[true, true, false, false, false, false, false, false, false, false, false, false, false, false]
abbrev mk16_3 : Array Bool := #[true, true, true, false, false, false, false, false, false, false, false, false, false, false]
abbrev mk16_4 : Array Bool := #[true, true, true, true, false, false, false, false, false, false, false, false, false, false]
abbrev mk16_5 : Array Bool := #[true, true, true, true, true, false, false, false, false, false, false, false, false, false]
abbrev mk16_6 : Array Bool := #[true, true, true, true, true, true, false, false, false, false, false, false, false, false]
abbrev mk16_7 : Array Bool := #[true, true, true, true, true, true, true, false, false, false, false, false, false, false]
abbrev mk16_8 : Array Bool := #[true, true, true, true, true, true, true, true, false, false, false, false, false, false]
abbrev mk16_9 : Array Bool := #[true, true, true, true, true, true, true, true, false, true, false, false, false, false]
abbrev mk16_10 : Array Bool := #[true, true, true, true, true, true, true, true, true, true, false, false, false, false]
abbrev mk16_11 : Array Bool := #[true, true, true, true, true, true, true, true, true, true, true, false, false, false]
abbrev mk16_12 : Array Bool := #[true, true, true, true, true, true, true, true, true, true, true, true, false, false]
abbrev mk16_13 : Array Bool := #[true, true, true, true, true, true, true, true, true, true, true, true, true, false]
abbrev mk16_14 : Array Bool := #[true, true, true, true, true, true, true, true, true, true, true, true, true, true]
abbrev mk16_15 : Array Bool := #[true, true, true, true, true, true, true, true, true, false, false, false, false, false]
mutual
def impl_cellsOk.l0 : Nat → List (S73) → List Int → List (S73) → Int → Int → Option (Bool)
  | 0, _, _, _, _, _ => none
  | k + 1, x0, x1, x7, x8, x9 => if x9 < x8 then (if 0 ≤ x9 then (if x9 < (x7.length : Int) then ((impl_Knows.f k x1 ((rd_T73 x7 x9).f1.f0) ((rd_T73 x7 x9).f1.f1)).bind fun t319 => (if t319 = true then ((impl_NameOk.f k ((rd_T73 x7 x9).f0)).bind fun t320 => (if t320 = true then ((impl_within.f ((rd_T73 x7 x9).f4) 0 999999).bind fun t321 => (if t321 = true then ((impl_within.f ((rd_T73 x7 x9).f2) 1 10000).bind fun t322 => (impl_cellsOk.j1 k x0 x1 x9 x7 x8 x9 (!t322) ((rd_T73 x7 x9).f0) ((rd_T73 x7 x9).f1.f0) ((rd_T73 x7 x9).f1.f1) ((rd_T73 x7 x9).f2) ((rd_T73 x7 x9).f3.f0) ((rd_T73 x7 x9).f3.f1) ((rd_T73 x7 x9).f4) ((rd_T73 x7 x9).f5))) else (impl_cellsOk.j1 k x0 x1 x9 x7 x8 x9 true ((rd_T73 x7 x9).f0) ((rd_T73 x7 x9).f1.f0) ((rd_T73 x7 x9).f1.f1) ((rd_T73 x7 x9).f2) ((rd_T73 x7 x9).f3.f0) ((rd_T73 x7 x9).f3.f1) ((rd_T73 x7 x9).f4) ((rd_T73 x7 x9).f5)))) else (impl_cellsOk.j1 k x0 x1 x9 x7 x8 x9 true ((rd_T73 x7 x9).f0) ((rd_T73 x7 x9).f1.f0) ((rd_T73 x7 x9).f1.f1) ((rd_T73 x7 x9).f2) ((rd_T73 x7 x9).f3.f0) ((rd_T73 x7 x9).f3.f1) ((rd_T73 x7 x9).f4) ((rd_T73 x7 x9).f5)))) else (impl_cellsOk.j1 k x0 x1 x9 x7 x8 x9 true ((rd_T73 x7 x9).f0) ((rd_T73 x7 x9).f1.f0) ((rd_T73 x7 x9).f1.f1) ((rd_T73 x7 x9).f2) ((rd_T73 x7 x9).f3.f0) ((rd_T73 x7 x9).f3.f1) ((rd_T73 x7 x9).f4) ((rd_T73 x7 x9).f5)))) else (none)) else (none)) else (some (decide ((x0.length : Int) ≤ 120)))
def impl_cellsOk.j1 : Nat → List (S73) → List Int → Int → List (S73) → Int → Int → Bool → ByteArray → Int → Int → Int → Int → Int → Int → Bool → Option (Bool)
  | 0, _, _, _, _, _, _, _, _, _, _, _, _, _, _, _ => none
  | k + 1, x0, x1, x5, x7, x8, x9, x36, x319000, x319001, x319002, x319003, x319004, x319005, x319006, x319007 => if x36 = true then (some false) else (if x5 > 0 then (if 0 ≤ (wrap64 (x5 - 1)) then (if (wrap64 (x5 - 1)) < (x0.length : Int) then ((impl_compareDots.f k ((rd_T73 x0 (wrap64 (x5 - 1))).f1.f0) ((rd_T73 x0 (wrap64 (x5 - 1))).f1.f1) x319001 x319002).bind fun t324 => (if t324 ≥ 0 then (some false) else (impl_cellsOk.l0 k x0 x1 x7 x8 (wrap64 (x9 + 1))))) else (none)) else (none)) else (impl_cellsOk.l0 k x0 x1 x7 x8 (wrap64 (x9 + 1))))
end


def impl_cellsOk.f (k : Nat) (l0 : List (S73)) (l1 : List Int) : Option (Bool) := impl_cellsOk.l0 k l0 l1 l0 (l0.length : Int) 0
def impl_cellsOk.T6 : Bool × List (List Nat × List Nat) := (true, [([], []), ([0], [0]), ([1], [1]), ([2], [2]), ([2], [2]), ([4, 2], [2, 4]), ([3, 5, 2], [2, 3, 5]), ([6, 2], [2, 6]), ([7, 2], [2, 7]), ([2], [2]), ([9, 2], [2, 9]), ([8, 10, 2, 2], [2, 8, 10]), ([11, 2], [2, 11]), ([2, 12], [2, 12])])
def impl_cellsOk.B6 : List Nat := [0, 1, 3, 7, 7, 23, 63, 127, 255, 7, 519, 2047, 4095, 8191]
theorem impl_cellsOk.tab6 : rtab .any (opsOf Try.f64 6) = impl_cellsOk.T6 := by kernel_rfl
theorem impl_cellsOk.bits6 : waitsOk impl_cellsOk.T6.2 impl_cellsOk.B6 = true := by kernel_rfl
set_option maxHeartbeats 8000000 in
set_option maxRecDepth 100000 in
theorem impl_cellsOk.calls (k : Nat) (A0 : Option Addr) (c0 : Nat) (l0 : List (S73)) (A1 : Option Addr) (c1 : Nat) (l1 : List Int) (r : Bool) (w : World) (hr0 : Kd.C k73 w A0 l0.length l0) (hc0 : l0.length ≤ c0) (hr1 : Kd.C (Kd.int .i64) w A1 l1.length l1) (hc1 : l1.length ≤ c1) (h : impl_cellsOk.f k l0 l1 = some r) :
  Calls Try.prog 64 #[.slice A0 l0.length c0, .slice A1 l1.length c1] w fun e w' => e = .returned (.bool r) ∧ Below w.heap.size w w' := by
 have hu73 := Try.underlying73
 have hu38 := Try.underlying38
 have HR0 := Aside0.mk hr0
 have HC0 := Aside0.mk hc0
 clear hr0 hc0
 have HR1 := Aside0.mk hr1
 have HC1 := Aside0.mk hc1
 clear hr1 hc1
 have HB := Aside0.mk (Below.refl w.heap.size w)
 have H : (impl_cellsOk.l0 k l0 l1 l0 (l0.length : Int) 0) = some r := h
 clear h
 have H' := Aside0.mk H
 clear H
 go_enter Try.func64, Try.ntmps64
 go_wp2
 go_loopg [9] k (fun kq v9 w' => ∃ (x9_1 : Int), v9 = .int .i64 x9_1 ∧ Aside0 (impl_cellsOk.l0 kq l0 l1 l0 (l0.length : Int) x9_1 = some r) ∧ Aside0 (kq ≤ k) ∧ Aside0 (Below w.heap.size w w'))
 case atStart => exact ⟨(0), z16_8, H', ⟨Nat.le_refl _⟩, ⟨z16_5⟩⟩
 case round =>
  clear H'
  try clear c1
  try clear p2
  obtain ⟨x9_1, rfl, HA, HK1, HB⟩ := hrel
  cases gk with
  | zero => exact absurd HA.out (by simp [impl_cellsOk.l0])
  | succ k1 =>
   have H := HA.out
   clear HA
   simp only [impl_cellsOk.l0] at H
   by_cases c3 : x9_1 < (l0.length : Int)
   ·
    rw [if_pos c3] at H
    have c3b0 : decide (x9_1 < (l0.length : Int)) = true := decide_eq_true c3
    clear c3
    by_cases c4 : 0 ≤ x9_1
    ·
     rw [if_pos c4] at H
     have c4b0 : decide (0 ≤ x9_1) = true := decide_eq_true c4
     clear c4
     by_cases c5 : x9_1 < (l0.length : Int)
     ·
      rw [if_pos c5] at H
      have c5b0 : decide (x9_1 < (l0.length : Int)) = true := decide_eq_true c5
      clear c5
      have HC6 := Aside0.mk H
      clear H
      have p317 : 0 ≤ (x9_1 : Int) := of_decide_eq_true z16_9
      have q317 : x9_1 < (l0.length : Int) := of_decide_eq_true z16_9
      obtain ⟨ad317, e317, hx317_0, hx317_1, hx317_2, hx317_3, hx317_4, hx317_5, hx317_6, hx317_7⟩ := at_T73 HR0.out x9_1 p317 q317
      cases e317
      replace hx317_0 := cb_ HB hx317_0
      replace hx317_1 := cb_ HB hx317_1
      replace hx317_2 := cb_ HB hx317_2
      replace hx317_3 := cb_ HB hx317_3
      replace hx317_4 := cb_ HB hx317_4
      replace hx317_5 := cb_ HB hx317_5
      replace hx317_6 := cb_ HB hx317_6
      replace hx317_7 := cb_ HB hx317_7
      replace p317 := eq_true p317
      replace q317 := eq_true q317
      go_upto_region 4 with (first | ((with_reducible refine gate_dst (N := 6) rfl ?_); refine box_event ?hg (N := 6) ?hd (cs := #[.string (⟨#[]⟩ : ByteArray), .int .i64 0, .int .i64 0, .int .i64 0, .int .i64 0, .int .i64 0, .int .i64 0, .bool false]) (t := 73) ?hr ?_; (case hd => rfl); (case hg => rfl); (case hr => first | (go_simp; done) | (go_simp; rfl)); intro gb318 hg w7 hbox hb; have BK318 := Aside0.mk (hbox); have GW318 := gw_ w z16_5 hg; have GE318 := gw_ w z16_5 hg; replace HB := Aside0.mk (below_step z16_5 hb); clear hb hbox hg; obtain ⟨hcz8_0, hcz8_1, hcz8_2, hcz8_3, hcz8_4, hcz8_5, hcz8_6, hcz8_7, hfz8_0, hfz8_1, hfz8_2, hfz8_3, hfz8_4, hfz8_5, hfz8_6, hfz8_7⟩ := bc8 BK318.out))
      (try simp only [Act.put, List.setIfInBounds_toArray, List.set_cons_zero, List.set_cons_succ])
      go_cut [36] (fun v36 wc => ∃ (kq : Nat) (x36_5 : Bool), v36 = .bool x36_5 ∧ Aside0 (impl_cellsOk.j1 kq l0 l1 x9_1 l0 (l0.length : Int) x9_1 x36_5 ((rd_T73 l0 x9_1).f0) ((rd_T73 l0 x9_1).f1.f0) ((rd_T73 l0 x9_1).f1.f1) ((rd_T73 l0 x9_1).f2) ((rd_T73 l0 x9_1).f3.f0) ((rd_T73 l0 x9_1).f3.f1) ((rd_T73 l0 x9_1).f4) ((rd_T73 l0 x9_1).f5) = some r) ∧ Aside0 (kq ≤ k1) ∧ Aside0 (wc.heap[gb318]? = some (.cells #[.string ((rd_T73 l0 x9_1).f0), .int .i64 ((rd_T73 l0 x9_1).f1.f0), .int .i64 ((rd_T73 l0 x9_1).f1.f1), .int .i64 ((rd_T73 l0 x9_1).f2), .int .i64 ((rd_T73 l0 x9_1).f3.f0), .int .i64 ((rd_T73 l0 x9_1).f3.f1), .int .i64 ((rd_T73 l0 x9_1).f4), .bool ((rd_T73 l0 x9_1).f5)] 73 (0, 0))) ∧ Aside0 (Below w.heap.size w wc))
      case first =>
       have H := HC6.out
       clear HC6
       replace H := Option.bind_eq_some_iff.mp H
       obtain ⟨t319, A90, H⟩ := H
       (try dsimp only at H)
       have A9 := Aside0.mk A90
       clear A90
       by_cases c10 : t319 = true
       ·
        subst c10
        rw [if_pos rfl] at H
        replace H := Option.bind_eq_some_iff.mp H
        obtain ⟨t320, A110, H⟩ := H
        (try dsimp only at H)
        have A11 := Aside0.mk A110
        clear A110
        by_cases c12 : t320 = true
        ·
         subst c12
         rw [if_pos rfl] at H
         replace H := Option.bind_eq_some_iff.mp H
         obtain ⟨t321, A130, H⟩ := H
         (try dsimp only at H)
         have A13 := Aside0.mk A130
         clear A130
         by_cases c14 : t321 = true
         ·
          subst c14
          rw [if_pos rfl] at H
          replace H := Option.bind_eq_some_iff.mp H
          obtain ⟨t322, A150, H⟩ := H
          (try dsimp only at H)
          have A15 := Aside0.mk A150
          clear A150
          have H' := Aside0.mk H
          clear H
          obtain ⟨hcz16_0, hcz16_1, hcz16_2, hcz16_3, hcz16_4, hcz16_5, hcz16_6, hcz16_7, hfz16_0, hfz16_1, hfz16_2, hfz16_3, hfz16_4, hfz16_5, hfz16_6, hfz16_7⟩ := bc8 BK318.out
          go_wp2_with (first | ((with_reducible refine gate_callee (f := 73) rfl ?_); refine goesL_ (some 17) rfl rfl Try.func73 z16_6 rfl #[.slice A1 l1.length c1, .agg #[.int .i64 ((rd_T73 l0 x9_1).f1.f0), .int .i64 ((rd_T73 l0 x9_1).f1.f1)]] rfl z16_7 ?_; (with_reducible refine (impl_Knows.calls k1 _ _ l1 ((rd_T73 l0 x9_1).f1.f0) ((rd_T73 l0 x9_1).f1.f1) true _ ?side1 ?side2 A9.out).mono ?_); (case side1 => exact Kd.C_below HR1.out z16_2); (case side2 => exact HC1.out); rintro e w17 ⟨rfl, hb⟩; refine ⟨_, rfl, ?_⟩; replace BK318 := Aside0.mk (blk_below (g := gb318) (o := .cells #[.string ((rd_T73 l0 x9_1).f0), .int .i64 ((rd_T73 l0 x9_1).f1.f0), .int .i64 ((rd_T73 l0 x9_1).f1.f1), .int .i64 ((rd_T73 l0 x9_1).f2), .int .i64 ((rd_T73 l0 x9_1).f3.f0), .int .i64 ((rd_T73 l0 x9_1).f3.f1), .int .i64 ((rd_T73 l0 x9_1).f4), .bool ((rd_T73 l0 x9_1).f5)] 73 (0, 0)) z16_0 hb); replace HB := Aside0.mk (below_step z16_2 hb); obtain ⟨hcz18_0, hcz18_1, hcz18_2, hcz18_3, hcz18_4, hcz18_5, hcz18_6, hcz18_7, hfz18_0, hfz18_1, hfz18_2, hfz18_3, hfz18_4, hfz18_5, hfz18_6, hfz18_7⟩ := bc8 BK318.out) | (go_at_call 107; (with_reducible refine (impl_NameOk.calls k1 ((rd_T73 l0 x9_1).f0) true _ A11.out).mono ?_); rintro e w' ⟨rfl, ⟨nd, rfl⟩⟩) | (go_at_call 106; (with_reducible refine (impl_within.calls ((rd_T73 l0 x9_1).f4) 0 999999 true _ A13.out).mono ?_); rintro e w' ⟨rfl, ⟨nd, rfl⟩⟩) | (go_at_call 106; (with_reducible refine (impl_within.calls ((rd_T73 l0 x9_1).f2) 1 10000 t322 _ A15.out).mono ?_); rintro e w' ⟨rfl, ⟨nd, rfl⟩⟩))
          go_meet
          case rel => exact ⟨_, (!t322), z16_8, H', ⟨z16_11⟩, ⟨z16_4⟩, ⟨z16_2⟩⟩
         ·
          replace c14 := Bool.eq_false_iff.mpr c14
          subst c14
          rw [if_neg (show ¬ (false = true) by decide)] at H
          have H' := Aside0.mk H
          clear H
          obtain ⟨hcz19_0, hcz19_1, hcz19_2, hcz19_3, hcz19_4, hcz19_5, hcz19_6, hcz19_7, hfz19_0, hfz19_1, hfz19_2, hfz19_3, hfz19_4, hfz19_5, hfz19_6, hfz19_7⟩ := bc8 BK318.out
          go_wp2_with (first | ((with_reducible refine gate_callee (f := 73) rfl ?_); refine goesL_ (some 17) rfl rfl Try.func73 z16_6 rfl #[.slice A1 l1.length c1, .agg #[.int .i64 ((rd_T73 l0 x9_1).f1.f0), .int .i64 ((rd_T73 l0 x9_1).f1.f1)]] rfl z16_7 ?_; (with_reducible refine (impl_Knows.calls k1 _ _ l1 ((rd_T73 l0 x9_1).f1.f0) ((rd_T73 l0 x9_1).f1.f1) true _ ?side1 ?side2 A9.out).mono ?_); (case side1 => exact Kd.C_below HR1.out z16_2); (case side2 => exact HC1.out); rintro e w20 ⟨rfl, hb⟩; refine ⟨_, rfl, ?_⟩; replace BK318 := Aside0.mk (blk_below (g := gb318) (o := .cells #[.string ((rd_T73 l0 x9_1).f0), .int .i64 ((rd_T73 l0 x9_1).f1.f0), .int .i64 ((rd_T73 l0 x9_1).f1.f1), .int .i64 ((rd_T73 l0 x9_1).f2), .int .i64 ((rd_T73 l0 x9_1).f3.f0), .int .i64 ((rd_T73 l0 x9_1).f3.f1), .int .i64 ((rd_T73 l0 x9_1).f4), .bool ((rd_T73 l0 x9_1).f5)] 73 (0, 0)) z16_0 hb); replace HB := Aside0.mk (below_step z16_2 hb); obtain ⟨hcz21_0, hcz21_1, hcz21_2, hcz21_3, hcz21_4, hcz21_5, hcz21_6, hcz21_7, hfz21_0, hfz21_1, hfz21_2, hfz21_3, hfz21_4, hfz21_5, hfz21_6, hfz21_7⟩ := bc8 BK318.out) | (go_at_call 107; (with_reducible refine (impl_NameOk.calls k1 ((rd_T73 l0 x9_1).f0) true _ A11.out).mono ?_); rintro e w' ⟨rfl, ⟨nd, rfl⟩⟩) | (go_at_call 106; (with_reducible refine (impl_within.calls ((rd_T73 l0 x9_1).f4) 0 999999 false _ A13.out).mono ?_); rintro e w' ⟨rfl, ⟨nd, rfl⟩⟩))
          go_meet
          case rel => exact ⟨_, (true), z16_8, H', ⟨z16_11⟩, ⟨z16_4⟩, ⟨z16_2⟩⟩
        ·
         replace c12 := Bool.eq_false_iff.mpr c12
         subst c12
         rw [if_neg (show ¬ (false = true) by decide)] at H
         have H' := Aside0.mk H
         clear H
         obtain ⟨hcz22_0, hcz22_1, hcz22_2, hcz22_3, hcz22_4, hcz22_5, hcz22_6, hcz22_7, hfz22_0, hfz22_1, hfz22_2, hfz22_3, hfz22_4, hfz22_5, hfz22_6, hfz22_7⟩ := bc8 BK318.out
         go_wp2_with (first | ((with_reducible refine gate_callee (f := 73) rfl ?_); refine goesL_ (some 17) rfl rfl Try.func73 z16_6 rfl #[.slice A1 l1.length c1, .agg #[.int .i64 ((rd_T73 l0 x9_1).f1.f0), .int .i64 ((rd_T73 l0 x9_1).f1.f1)]] rfl z16_7 ?_; (with_reducible refine (impl_Knows.calls k1 _ _ l1 ((rd_T73 l0 x9_1).f1.f0) ((rd_T73 l0 x9_1).f1.f1) true _ ?side1 ?side2 A9.out).mono ?_); (case side1 => exact Kd.C_below HR1.out z16_2); (case side2 => exact HC1.out); rintro e w23 ⟨rfl, hb⟩; refine ⟨_, rfl, ?_⟩; replace BK318 := Aside0.mk (blk_below (g := gb318) (o := .cells #[.string ((rd_T73 l0 x9_1).f0), .int .i64 ((rd_T73 l0 x9_1).f1.f0), .int .i64 ((rd_T73 l0 x9_1).f1.f1), .int .i64 ((rd_T73 l0 x9_1).f2), .int .i64 ((rd_T73 l0 x9_1).f3.f0), .int .i64 ((rd_T73 l0 x9_1).f3.f1), .int .i64 ((rd_T73 l0 x9_1).f4), .bool ((rd_T73 l0 x9_1).f5)] 73 (0, 0)) z16_0 hb); replace HB := Aside0.mk (below_step z16_2 hb); obtain ⟨hcz24_0, hcz24_1, hcz24_2, hcz24_3, hcz24_4, hcz24_5, hcz24_6, hcz24_7, hfz24_0, hfz24_1, hfz24_2, hfz24_3, hfz24_4, hfz24_5, hfz24_6, hfz24_7⟩ := bc8 BK318.out) | (go_at_call 107; (with_reducible refine (impl_NameOk.calls k1 ((rd_T73 l0 x9_1).f0) false _ A11.out).mono ?_); rintro e w' ⟨rfl, ⟨nd, rfl⟩⟩))
         go_meet
         case rel => exact ⟨_, (true), z16_8, H', ⟨z16_11⟩, ⟨z16_4⟩, ⟨z16_2⟩⟩
       ·
        replace c10 := Bool.eq_false_iff.mpr c10
        subst c10
        rw [if_neg (show ¬ (false = true) by decide)] at H
        have H' := Aside0.mk H
        clear H
        obtain ⟨hcz25_0, hcz25_1, hcz25_2, hcz25_3, hcz25_4, hcz25_5, hcz25_6, hcz25_7, hfz25_0, hfz25_1, hfz25_2, hfz25_3, hfz25_4, hfz25_5, hfz25_6, hfz25_7⟩ := bc8 BK318.out
        go_wp2_with (first | ((with_reducible refine gate_callee (f := 73) rfl ?_); refine goesL_ (some 17) rfl rfl Try.func73 z16_6 rfl #[.slice A1 l1.length c1, .agg #[.int .i64 ((rd_T73 l0 x9_1).f1.f0), .int .i64 ((rd_T73 l0 x9_1).f1.f1)]] rfl z16_7 ?_; (with_reducible refine (impl_Knows.calls k1 _ _ l1 ((rd_T73 l0 x9_1).f1.f0) ((rd_T73 l0 x9_1).f1.f1) false _ ?side1 ?side2 A9.out).mono ?_); (case side1 => exact Kd.C_below HR1.out z16_2); (case side2 => exact HC1.out); rintro e w26 ⟨rfl, hb⟩; refine ⟨_, rfl, ?_⟩; replace BK318 := Aside0.mk (blk_below (g := gb318) (o := .cells #[.string ((rd_T73 l0 x9_1).f0), .int .i64 ((rd_T73 l0 x9_1).f1.f0), .int .i64 ((rd_T73 l0 x9_1).f1.f1), .int .i64 ((rd_T73 l0 x9_1).f2), .int .i64 ((rd_T73 l0 x9_1).f3.f0), .int .i64 ((rd_T73 l0 x9_1).f3.f1), .int .i64 ((rd_T73 l0 x9_1).f4), .bool ((rd_T73 l0 x9_1).f5)] 73 (0, 0)) z16_0 hb); replace HB := Aside0.mk (below_step z16_2 hb)))
        go_meet
        case rel => exact ⟨_, (true), z16_8, H', ⟨z16_11⟩, ⟨z16_4⟩, ⟨z16_2⟩⟩
      case rest =>
       clear HC6
       try clear c1
       try clear p2
       try clear c3
       try clear c3b0
       try clear p3
       try clear q3
       try clear hx3
       try clear c4
       try clear c4b0
       try clear c5
       try clear c5b0
       try clear c6
       try clear c7
       try clear c10
       try clear c12
       try clear c14
       try clear hcz16_0
       try clear hcz16_1
       try clear hcz16_2
       try clear hcz16_3
       try clear hcz16_4
       try clear hcz16_5
       try clear hcz16_6
       try clear hcz16_7
       try clear hcz18_0
       try clear hcz18_1
       try clear hcz18_2
       try clear hcz18_3
       try clear hcz18_4
       try clear hcz18_5
       try clear hcz18_6
       try clear hcz18_7
       try clear hcz19_0
       try clear hcz19_1
       try clear hcz19_2
       try clear hcz19_3
       try clear hcz19_4
       try clear hcz19_5
       try clear hcz19_6
       try clear hcz19_7
       try clear hcz21_0
       try clear hcz21_1
       try clear hcz21_2
       try clear hcz21_3
       try clear hcz21_4
       try clear hcz21_5
       try clear hcz21_6
       try clear hcz21_7
       try clear hcz22_0
       try clear hcz22_1
       try clear hcz22_2
       try clear hcz22_3
       try clear hcz22_4
       try clear hcz22_5
       try clear hcz22_6
       try clear hcz22_7
       try clear hcz24_0
       try clear hcz24_1
       try clear hcz24_2
       try clear hcz24_3
       try clear hcz24_4
       try clear hcz24_5
       try clear hcz24_6
       try clear hcz24_7
       try clear hcz25_0
       try clear hcz25_1
       try clear hcz25_2
       try clear hcz25_3
       try clear hcz25_4
       try clear hcz25_5
       try clear hcz25_6
       try clear hcz25_7
       try clear hcz8_0
       try clear hcz8_1
       try clear hcz8_2
       try clear hcz8_3
       try clear hcz8_4
       try clear hcz8_5
       try clear hcz8_6
       try clear hcz8_7
       try clear hfz16_0
       try clear hfz16_1
       try clear hfz16_2
       try clear hfz16_3
       try clear hfz16_4
       try clear hfz16_5
       try clear hfz16_6
       try clear hfz16_7
       try clear hfz18_0
       try clear hfz18_1
       try clear hfz18_2
       try clear hfz18_3
       try clear hfz18_4
       try clear hfz18_5
       try clear hfz18_6
       try clear hfz18_7
       try clear hfz19_0
       try clear hfz19_1
       try clear hfz19_2
       try clear hfz19_3
       try clear hfz19_4
       try clear hfz19_5
       try clear hfz19_6
       try clear hfz19_7
       try clear hfz21_0
       try clear hfz21_1
       try clear hfz21_2
       try clear hfz21_3
       try clear hfz21_4
       try clear hfz21_5
       try clear hfz21_6
       try clear hfz21_7
       try clear hfz22_0
       try clear hfz22_1
       try clear hfz22_2
       try clear hfz22_3
       try clear hfz22_4
       try clear hfz22_5
       try clear hfz22_6
       try clear hfz22_7
       try clear hfz24_0
       try clear hfz24_1
       try clear hfz24_2
       try clear hfz24_3
       try clear hfz24_4
       try clear hfz24_5
       try clear hfz24_6
       try clear hfz24_7
       try clear hfz25_0
       try clear hfz25_1
       try clear hfz25_2
       try clear hfz25_3
       try clear hfz25_4
       try clear hfz25_5
       try clear hfz25_6
       try clear hfz25_7
       try clear hfz8_0
       try clear hfz8_1
       try clear hfz8_2
       try clear hfz8_3
       try clear hfz8_4
       try clear hfz8_5
       try clear hfz8_6
       try clear hfz8_7
       try clear hx317_0
       try clear hx317_1
       try clear hx317_2
       try clear hx317_3
       try clear hx317_4
       try clear hx317_5
       try clear hx317_6
       try clear hx317_7
       try clear p2
       try clear p317
       try clear q317
       obtain ⟨kq, x36_5, rfl, HA, HJ5, BK318, HB⟩ := hcut
       cases kq with
       | zero => exact absurd HA.out (by simp [impl_cellsOk.j1])
       | succ kj5 =>
        have H := HA.out
        clear HA
        simp only [impl_cellsOk.j1] at H
        by_cases c27 : x36_5 = true
        ·
         subst c27
         rw [if_pos rfl] at H
         obtain rfl := Option.some.inj H
         go_wp2
         go_ret
         exact ⟨by first | rfl | (simp [errW_none, errW_some] <;> rfl) | (simp [*, errW_none, errW_some] <;> rfl), z16_2⟩
        ·
         replace c27 := Bool.eq_false_iff.mpr c27
         subst c27
         rw [if_neg (show ¬ (false = true) by decide)] at H
         by_cases c28 : x9_1 > 0
         ·
          rw [if_pos c28] at H
          have c28b0 : decide (0 < x9_1) = true := decide_eq_true c28
          clear c28
          obtain ⟨ji29, hji29⟩ : ∃ j_ : Int, (wrap64 (x9_1 - 1)) = j_ := ⟨_, rfl⟩
          replace H : (if 0 ≤ (ji29) then (if (ji29) < (l0.length : Int) then ((impl_compareDots.f kj5 ((rd_T73 l0 (ji29)).f1.f0) ((rd_T73 l0 (ji29)).f1.f1) ((rd_T73 l0 x9_1).f1.f0) ((rd_T73 l0 x9_1).f1.f1)).bind fun t324 => (if t324 ≥ 0 then (some false) else (impl_cellsOk.l0 kj5 l0 l1 l0 (l0.length : Int) (wrap64 (x9_1 + 1))))) else (none)) else (none)) = some r := by first | (rw [hji29] at H; exact H) | (simp only [hji29] at H ⊢; exact H)
          have hji29w : (IntKind.i64.wrap (x9_1 - 1)) = ji29 := (i64_w _).trans hji29
          by_cases c30 : 0 ≤ (ji29)
          ·
           rw [if_pos c30] at H
           have c30b0 : decide (0 ≤ (ji29)) = true := decide_eq_true c30
           clear c30
           by_cases c31 : (ji29) < (l0.length : Int)
           ·
            rw [if_pos c31] at H
            have c31b0 : decide ((ji29) < (l0.length : Int)) = true := decide_eq_true c31
            clear c31
            replace H := Option.bind_eq_some_iff.mp H
            obtain ⟨t324, A320, H⟩ := H
            (try dsimp only at H)
            have A32 := Aside0.mk A320
            clear A320
            by_cases c33 : t324 ≥ 0
            ·
             rw [if_pos c33] at H
             have c33b0 : decide (0 ≤ t324) = true := decide_eq_true c33
             clear c33
             obtain rfl := Option.some.inj H
             try go_wp2
             replace BK318 := Aside0.mk (blk_drew BK318.out)
             replace HB := Aside0.mk (below_drew1 HB.out)
             have p323 : 0 ≤ ((ji29) : Int) := of_decide_eq_true z16_9
             have q323 : (ji29) < (l0.length : Int) := of_decide_eq_true z16_9
             obtain ⟨ad323, e323, hx323_0, hx323_1, hx323_2, hx323_3, hx323_4, hx323_5, hx323_6, hx323_7⟩ := at_T73 HR0.out (ji29) p323 q323
             have hw323_7 := hx323_7
             have hw323_6 := hx323_6
             have hw323_5 := hx323_5
             have hw323_4 := hx323_4
             have hw323_3 := hx323_3
             have hw323_2 := hx323_2
             have hw323_1 := hx323_1
             have hw323_0 := hx323_0
             obtain rfl : ad317 = ad323 := (by injection e323)
             replace hx323_0 := cb_ HB hx323_0
             replace hx323_1 := cb_ HB hx323_1
             replace hx323_2 := cb_ HB hx323_2
             replace hx323_3 := cb_ HB hx323_3
             replace hx323_4 := cb_ HB hx323_4
             replace hx323_5 := cb_ HB hx323_5
             replace hx323_6 := cb_ HB hx323_6
             replace hx323_7 := cb_ HB hx323_7
             replace p323 := eq_true p323
             replace q323 := eq_true q323
             refine start_ (n := 14) (S := fun w' => w'.cell? ⟨gb318, 0, none⟩ = some (.string ((rd_T73 l0 x9_1).f0)) ∧ w'.cell? ⟨gb318, 1, none⟩ = some (.int .i64 ((rd_T73 l0 x9_1).f1.f0)) ∧ w'.cell? ⟨gb318, 2, none⟩ = some (.int .i64 ((rd_T73 l0 x9_1).f1.f1)) ∧ w'.cell? ⟨gb318, 3, none⟩ = some (.int .i64 ((rd_T73 l0 x9_1).f2)) ∧ w'.cell? ⟨gb318, 4, none⟩ = some (.int .i64 ((rd_T73 l0 x9_1).f3.f0)) ∧ w'.cell? ⟨gb318, 5, none⟩ = some (.int .i64 ((rd_T73 l0 x9_1).f3.f1)) ∧ w'.cell? ⟨gb318, 6, none⟩ = some (.int .i64 ((rd_T73 l0 x9_1).f4)) ∧ w'.cell? ⟨gb318, 7, none⟩ = some (.bool ((rd_T73 l0 x9_1).f5)) ∧ w'.cell? (ad317.add (((ji29)).toNat * 8)) = some (.string ((rd_T73 l0 (ji29)).f0)) ∧ w'.cell? ⟨(ad317.add (((ji29)).toNat * 8)).block, (ad317.add (((ji29)).toNat * 8)).off + 1, none⟩ = some (.int .i64 ((rd_T73 l0 (ji29)).f1.f0)) ∧ w'.cell? ⟨(ad317.add (((ji29)).toNat * 8)).block, (ad317.add (((ji29)).toNat * 8)).off + 2, none⟩ = some (.int .i64 ((rd_T73 l0 (ji29)).f1.f1)) ∧ w'.cell? ⟨(ad317.add (((ji29)).toNat * 8)).block, (ad317.add (((ji29)).toNat * 8)).off + 3, none⟩ = some (.int .i64 ((rd_T73 l0 (ji29)).f2)) ∧ w'.cell? ⟨(ad317.add (((ji29)).toNat * 8)).block, (ad317.add (((ji29)).toNat * 8)).off + 4, none⟩ = some (.int .i64 ((rd_T73 l0 (ji29)).f3.f0)) ∧ w'.cell? ⟨(ad317.add (((ji29)).toNat * 8)).block, (ad317.add (((ji29)).toNat * 8)).off + 5, none⟩ = some (.int .i64 ((rd_T73 l0 (ji29)).f3.f1)) ∧ w'.cell? ⟨(ad317.add (((ji29)).toNat * 8)).block, (ad317.add (((ji29)).toNat * 8)).off + 6, none⟩ = some (.int .i64 ((rd_T73 l0 (ji29)).f4)) ∧ w'.cell? ⟨(ad317.add (((ji29)).toNat * 8)).block, (ad317.add (((ji29)).toNat * 8)).off + 7, none⟩ = some (.bool ((rd_T73 l0 (ji29)).f5))) (ds := []) mk16_0 z16_6 rfl rfl ⟨bc_ BK318 0, bc_ BK318 1, bc_ BK318 2, bc_ BK318 3, bc_ BK318 4, bc_ BK318 5, bc_ BK318 6, bc_ BK318 7, (cb_ HB hw323_0), (cb_ HB hw323_1), (cb_ HB hw323_2), (cb_ HB hw323_3), (cb_ HB hw323_4), (cb_ HB hw323_5), (cb_ HB hw323_6), (cb_ HB hw323_7)⟩ (fun hHeld => ?_); refine with_tabW impl_cellsOk.tab6 impl_cellsOk.bits6 (fun HT_ HW_ => ?_)
             generalize wc.drew = w34 at BK318 HB hx323_0 hx323_1 hx323_2 hx323_3 hx323_4 hx323_5 hx323_6 hx323_7 hHeld ⊢
             refine p_ (i := 0) (N := some 37) mk16_1 ?_ (hv := z16_3) (ha := z16_1)
             refine p_ (i := 1) (N := some 38) mk16_2 ?_ (hv := z16_3) (ha := z16_1)
             refine p_ (i := 2) (N := some 39) mk16_3 ?_ (hv := z16_3) (ha := z16_1)
             refine p_ (i := 3) (N := some 40) mk16_4 ?_ (hv := z16_3) (ha := z16_1)
             refine p_ (i := 4) (N := some 41) mk16_5 ?_ (hv := z16_3) (ha := z16_1)
             refine p_ (i := 5) (N := some 42) mk16_6 ?_ (hv := z16_3) (ha := z16_1)
             refine p_ (i := 6) (N := some 43) mk16_7 ?_ (hv := z16_3) (ha := z16_1)
             refine p_ (i := 7) (N := some 44) mk16_8 ?_ (hv := z16_3) (ha := z16_1)
             refine p_ (i := 9) (N := some 46) mk16_9 ?_ (hv := z16_3) (ha := z16_1)
             refine t_ (i := 8) (N := some 45) mk16_10 hHeld ?_ (hv := by rintro w' ⟨s0, s1, s2, s3, s4, s5, s6, s7, s8, s9, s10, s11, s12, s13, s14, s15⟩; go_simp; with_reducible rfl) (ha := z16_1)
             refine t_ (i := 10) (N := some 47) mk16_11 hHeld ?_ (hv := by rintro w' ⟨s0, s1, s2, s3, s4, s5, s6, s7, s8, s9, s10, s11, s12, s13, s14, s15⟩; go_simp; with_reducible rfl) (ha := z16_1)
             refine o_ (i := 11) (N := some 48) mk16_12 (fun K hK => ?_)
             refine goes_ Try.func109 z16_6 rfl #[.agg #[.int .i64 ((rd_T73 l0 (ji29)).f1.f0), .int .i64 ((rd_T73 l0 (ji29)).f1.f1)], .agg #[.int .i64 ((rd_T73 l0 x9_1).f1.f0), .int .i64 ((rd_T73 l0 x9_1).f1.f1)]] (by rfl) rfl rfl z16_10 ?_
             with_reducible refine (impl_compareDots.calls kj5 ((rd_T73 l0 (ji29)).f1.f0) ((rd_T73 l0 (ji29)).f1.f1) ((rd_T73 l0 x9_1).f1.f0) ((rd_T73 l0 x9_1).f1.f1) t324 _ A32.out).mono ?_
             rintro e w35 ⟨rfl, hb⟩
             refine ⟨_, rfl, ?_⟩
             replace BK318 := Aside0.mk (blk_below (g := gb318) (o := .cells #[.string ((rd_T73 l0 x9_1).f0), .int .i64 ((rd_T73 l0 x9_1).f1.f0), .int .i64 ((rd_T73 l0 x9_1).f1.f1), .int .i64 ((rd_T73 l0 x9_1).f2), .int .i64 ((rd_T73 l0 x9_1).f3.f0), .int .i64 ((rd_T73 l0 x9_1).f3.f1), .int .i64 ((rd_T73 l0 x9_1).f4), .bool ((rd_T73 l0 x9_1).f5)] 73 (0, 0)) z16_4 hb)
             replace HB := Aside0.mk (below_step z16_2 hb)
             (try clear hb)
             (try clear hb2)
             (try clear hk)
             (try clear hi)
             refine hK.out _ _ ⟨bc_ BK318 0, bc_ BK318 1, bc_ BK318 2, bc_ BK318 3, bc_ BK318 4, bc_ BK318 5, bc_ BK318 6, bc_ BK318 7, (cb_ HB hw323_0), (cb_ HB hw323_1), (cb_ HB hw323_2), (cb_ HB hw323_3), (cb_ HB hw323_4), (cb_ HB hw323_5), (cb_ HB hw323_6), (cb_ HB hw323_7)⟩ (fun hHeld => ?_)
             clear hK K
             refine n_ ?_
             refine p_ (i := 12) (N := some 49) mk16_13 ?_ (hv := z16_3) (ha := z16_1)
             refine p_ (i := 13) (N := some 50) mk16_14 ?_ (hv := z16_3) (ha := z16_1)
             refine done_ (done_of HT_.out z16_6) ?_
             try go_wp2
             go_ret
             exact ⟨by first | rfl | (simp [errW_none, errW_some] <;> rfl) | (simp only [← hji29]; first | rfl | (simp [errW_none, errW_some] <;> rfl)) | (simp [*, errW_none, errW_some] <;> rfl), z16_2⟩
            ·
             rw [if_neg c33] at H
             have c33b0 : decide (0 ≤ t324) = false := decide_eq_false c33
             clear c33
             have H' := Aside0.mk H
             clear H
             try go_wp2
             replace BK318 := Aside0.mk (blk_drew BK318.out)
             replace HB := Aside0.mk (below_drew1 HB.out)
             have p323 : 0 ≤ ((ji29) : Int) := of_decide_eq_true z16_9
             have q323 : (ji29) < (l0.length : Int) := of_decide_eq_true z16_9
             obtain ⟨ad323, e323, hx323_0, hx323_1, hx323_2, hx323_3, hx323_4, hx323_5, hx323_6, hx323_7⟩ := at_T73 HR0.out (ji29) p323 q323
             have hw323_7 := hx323_7
             have hw323_6 := hx323_6
             have hw323_5 := hx323_5
             have hw323_4 := hx323_4
             have hw323_3 := hx323_3
             have hw323_2 := hx323_2
             have hw323_1 := hx323_1
             have hw323_0 := hx323_0
             obtain rfl : ad317 = ad323 := (by injection e323)
             replace hx323_0 := cb_ HB hx323_0
             replace hx323_1 := cb_ HB hx323_1
             replace hx323_2 := cb_ HB hx323_2
             replace hx323_3 := cb_ HB hx323_3
             replace hx323_4 := cb_ HB hx323_4
             replace hx323_5 := cb_ HB hx323_5
             replace hx323_6 := cb_ HB hx323_6
             replace hx323_7 := cb_ HB hx323_7
             replace p323 := eq_true p323
             replace q323 := eq_true q323
             refine start_ (n := 14) (S := fun w' => w'.cell? ⟨gb318, 0, none⟩ = some (.string ((rd_T73 l0 x9_1).f0)) ∧ w'.cell? ⟨gb318, 1, none⟩ = some (.int .i64 ((rd_T73 l0 x9_1).f1.f0)) ∧ w'.cell? ⟨gb318, 2, none⟩ = some (.int .i64 ((rd_T73 l0 x9_1).f1.f1)) ∧ w'.cell? ⟨gb318, 3, none⟩ = some (.int .i64 ((rd_T73 l0 x9_1).f2)) ∧ w'.cell? ⟨gb318, 4, none⟩ = some (.int .i64 ((rd_T73 l0 x9_1).f3.f0)) ∧ w'.cell? ⟨gb318, 5, none⟩ = some (.int .i64 ((rd_T73 l0 x9_1).f3.f1)) ∧ w'.cell? ⟨gb318, 6, none⟩ = some (.int .i64 ((rd_T73 l0 x9_1).f4)) ∧ w'.cell? ⟨gb318, 7, none⟩ = some (.bool ((rd_T73 l0 x9_1).f5)) ∧ w'.cell? (ad317.add (((ji29)).toNat * 8)) = some (.string ((rd_T73 l0 (ji29)).f0)) ∧ w'.cell? ⟨(ad317.add (((ji29)).toNat * 8)).block, (ad317.add (((ji29)).toNat * 8)).off + 1, none⟩ = some (.int .i64 ((rd_T73 l0 (ji29)).f1.f0)) ∧ w'.cell? ⟨(ad317.add (((ji29)).toNat * 8)).block, (ad317.add (((ji29)).toNat * 8)).off + 2, none⟩ = some (.int .i64 ((rd_T73 l0 (ji29)).f1.f1)) ∧ w'.cell? ⟨(ad317.add (((ji29)).toNat * 8)).block, (ad317.add (((ji29)).toNat * 8)).off + 3, none⟩ = some (.int .i64 ((rd_T73 l0 (ji29)).f2)) ∧ w'.cell? ⟨(ad317.add (((ji29)).toNat * 8)).block, (ad317.add (((ji29)).toNat * 8)).off + 4, none⟩ = some (.int .i64 ((rd_T73 l0 (ji29)).f3.f0)) ∧ w'.cell? ⟨(ad317.add (((ji29)).toNat * 8)).block, (ad317.add (((ji29)).toNat * 8)).off + 5, none⟩ = some (.int .i64 ((rd_T73 l0 (ji29)).f3.f1)) ∧ w'.cell? ⟨(ad317.add (((ji29)).toNat * 8)).block, (ad317.add (((ji29)).toNat * 8)).off + 6, none⟩ = some (.int .i64 ((rd_T73 l0 (ji29)).f4)) ∧ w'.cell? ⟨(ad317.add (((ji29)).toNat * 8)).block, (ad317.add (((ji29)).toNat * 8)).off + 7, none⟩ = some (.bool ((rd_T73 l0 (ji29)).f5))) (ds := []) mk16_0 z16_6 rfl rfl ⟨bc_ BK318 0, bc_ BK318 1, bc_ BK318 2, bc_ BK318 3, bc_ BK318 4, bc_ BK318 5, bc_ BK318 6, bc_ BK318 7, (cb_ HB hw323_0), (cb_ HB hw323_1), (cb_ HB hw323_2), (cb_ HB hw323_3), (cb_ HB hw323_4), (cb_ HB hw323_5), (cb_ HB hw323_6), (cb_ HB hw323_7)⟩ (fun hHeld => ?_); refine with_tabW impl_cellsOk.tab6 impl_cellsOk.bits6 (fun HT_ HW_ => ?_)
             generalize wc.drew = w36 at BK318 HB hx323_0 hx323_1 hx323_2 hx323_3 hx323_4 hx323_5 hx323_6 hx323_7 hHeld ⊢
             refine p_ (i := 0) (N := some 37) mk16_1 ?_ (hv := z16_3) (ha := z16_1)
             refine p_ (i := 1) (N := some 38) mk16_2 ?_ (hv := z16_3) (ha := z16_1)
             refine p_ (i := 2) (N := some 39) mk16_3 ?_ (hv := z16_3) (ha := z16_1)
             refine p_ (i := 3) (N := some 40) mk16_4 ?_ (hv := z16_3) (ha := z16_1)
             refine p_ (i := 4) (N := some 41) mk16_5 ?_ (hv := z16_3) (ha := z16_1)
             refine p_ (i := 5) (N := some 42) mk16_6 ?_ (hv := z16_3) (ha := z16_1)
             refine p_ (i := 6) (N := some 43) mk16_7 ?_ (hv := z16_3) (ha := z16_1)
             refine p_ (i := 7) (N := some 44) mk16_8 ?_ (hv := z16_3) (ha := z16_1)
             refine p_ (i := 9) (N := some 46) mk16_9 ?_ (hv := z16_3) (ha := z16_1)
             refine t_ (i := 8) (N := some 45) mk16_10 hHeld ?_ (hv := by rintro w' ⟨s0, s1, s2, s3, s4, s5, s6, s7, s8, s9, s10, s11, s12, s13, s14, s15⟩; go_simp; with_reducible rfl) (ha := z16_1)
             refine t_ (i := 10) (N := some 47) mk16_11 hHeld ?_ (hv := by rintro w' ⟨s0, s1, s2, s3, s4, s5, s6, s7, s8, s9, s10, s11, s12, s13, s14, s15⟩; go_simp; with_reducible rfl) (ha := z16_1)
             refine o_ (i := 11) (N := some 48) mk16_12 (fun K hK => ?_)
             refine goes_ Try.func109 z16_6 rfl #[.agg #[.int .i64 ((rd_T73 l0 (ji29)).f1.f0), .int .i64 ((rd_T73 l0 (ji29)).f1.f1)], .agg #[.int .i64 ((rd_T73 l0 x9_1).f1.f0), .int .i64 ((rd_T73 l0 x9_1).f1.f1)]] (by rfl) rfl rfl z16_10 ?_
             with_reducible refine (impl_compareDots.calls kj5 ((rd_T73 l0 (ji29)).f1.f0) ((rd_T73 l0 (ji29)).f1.f1) ((rd_T73 l0 x9_1).f1.f0) ((rd_T73 l0 x9_1).f1.f1) t324 _ A32.out).mono ?_
             rintro e w37 ⟨rfl, hb⟩
             refine ⟨_, rfl, ?_⟩
             replace BK318 := Aside0.mk (blk_below (g := gb318) (o := .cells #[.string ((rd_T73 l0 x9_1).f0), .int .i64 ((rd_T73 l0 x9_1).f1.f0), .int .i64 ((rd_T73 l0 x9_1).f1.f1), .int .i64 ((rd_T73 l0 x9_1).f2), .int .i64 ((rd_T73 l0 x9_1).f3.f0), .int .i64 ((rd_T73 l0 x9_1).f3.f1), .int .i64 ((rd_T73 l0 x9_1).f4), .bool ((rd_T73 l0 x9_1).f5)] 73 (0, 0)) z16_4 hb)
             replace HB := Aside0.mk (below_step z16_2 hb)
             (try clear hb)
             (try clear hb2)
             (try clear hk)
             (try clear hi)
             refine hK.out _ _ ⟨bc_ BK318 0, bc_ BK318 1, bc_ BK318 2, bc_ BK318 3, bc_ BK318 4, bc_ BK318 5, bc_ BK318 6, bc_ BK318 7, (cb_ HB hw323_0), (cb_ HB hw323_1), (cb_ HB hw323_2), (cb_ HB hw323_3), (cb_ HB hw323_4), (cb_ HB hw323_5), (cb_ HB hw323_6), (cb_ HB hw323_7)⟩ (fun hHeld => ?_)
             clear hK K
             refine n_ ?_
             refine p_ (i := 12) (N := some 49) mk16_13 ?_ (hv := z16_3) (ha := z16_1)
             refine p_ (i := 13) (N := some 50) mk16_14 ?_ (hv := z16_3) (ha := z16_1)
             refine done_ (done_of HT_.out z16_6) ?_
             try go_wp2
             go_roundg kj5
             case measure => have := HK1.out; have := HJ5.out; omega
             case rel => exact ⟨(wrap64 (x9_1 + 1)), z16_8, H', ⟨by have := HK1.out; have := HJ5.out; omega⟩, ⟨z16_2⟩⟩
           ·
            rw [if_neg c31] at H
            exact absurd H (by simp)
          ·
           rw [if_neg c30] at H
           exact absurd H (by simp)
         ·
          rw [if_neg c28] at H
          have c28b0 : decide (0 < x9_1) = false := decide_eq_false c28
          clear c28
          have H' := Aside0.mk H
          clear H
          try go_wp2
          replace BK318 := Aside0.mk (blk_drew BK318.out)
          replace HB := Aside0.mk (below_drew1 HB.out)
          refine start_ (n := 14) (S := fun w' => True) (ds := []) mk16_0 z16_6 rfl rfl trivial (fun hHeld => ?_); refine with_tabW impl_cellsOk.tab6 impl_cellsOk.bits6 (fun HT_ HW_ => ?_)
          generalize wc.drew = w38 at BK318 HB hHeld ⊢
          refine p_ (i := 0) (N := some 37) mk16_1 ?_ (hv := z16_3) (ha := z16_1)
          refine p_ (i := 1) (N := some 38) mk16_2 ?_ (hv := z16_3) (ha := z16_1)
          refine p_ (i := 2) (N := some 39) mk16_3 ?_ (hv := z16_3) (ha := z16_1)
          refine u_ (i := 3) (N := some 40) mk16_4 ?_ (ha := z16_1)
          refine u_ (i := 4) (N := some 41) mk16_5 ?_ (ha := z16_1)
          refine u_ (i := 5) (N := some 42) mk16_6 ?_ (ha := z16_1)
          refine u_ (i := 6) (N := some 43) mk16_7 ?_ (ha := z16_1)
          refine u_ (i := 7) (N := some 44) mk16_8 ?_ (ha := z16_1)
          refine u_ (i := 8) (N := some 45) mk16_15 ?_ (ha := z16_1)
          refine u_ (i := 9) (N := some 46) mk16_10 ?_ (ha := z16_1)
          refine u_ (i := 10) (N := some 47) mk16_11 ?_ (ha := z16_1)
          refine u_ (i := 11) (N := some 48) mk16_12 ?_ (ha := z16_1)
          refine u_ (i := 12) (N := some 49) mk16_13 ?_ (ha := z16_1)
          refine p_ (i := 13) (N := some 50) mk16_14 ?_ (hv := z16_3) (ha := z16_1)
          refine done_ (done_of HT_.out z16_6) ?_
          try go_wp2
          go_roundg kj5
          case measure => have := HK1.out; have := HJ5.out; omega
          case rel => exact ⟨(wrap64 (x9_1 + 1)), z16_8, H', ⟨by have := HK1.out; have := HJ5.out; omega⟩, ⟨z16_2⟩⟩
     ·
      rw [if_neg c5] at H
      exact absurd H (by simp)
    ·
     rw [if_neg c4] at H
     exact absurd H (by simp)
   ·
    rw [if_neg c3] at H
    have c3b0 : decide (x9_1 < (l0.length : Int)) = false := decide_eq_false c3
    clear c3
    obtain rfl := Option.some.inj H
    go_wp2
    go_ret
    exact ⟨by first | rfl | (simp [errW_none, errW_some] <;> rfl) | (simp [*, errW_none, errW_some] <;> rfl), z16_5⟩
end Go.Proofs.Ytbanogkoaplcdaa.QSOk
