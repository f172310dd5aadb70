/- What the functions behind SOk compute, and that the program's calls come to just that. Written by a program of this session on the base of the kit's print. No condition. -/
import Derived.Test.YtbanogkoaplcdaaVFnExactStateOkShort
import Derived.Test.YtbanogkoaplcdaaVFnExactStateOkQSOkx0
import Derived.Test.YtbanogkoaplcdaaVFnExactStateOkQSOkx12
namespace Go.Proofs.Ytbanogkoaplcdaa.QSOk
open Go.RowKit Go.Proofs.Ytbanogkoaplcdaa.Short Go.Proofs.YtbanogkoaplcdaaW.PrintWords Go.Proofs.YtbanogkoaplcdaaW.PrintLast Go.Proofs.YtbanogkoaplcdaaW.PrintMore
attribute [local go_sem] max2_int min2_int max_two min_two max_three min_three max_four min_four   -- for this text's walks alone
set_option linter.unusedVariables false
set_option linter.unusedSimpArgs false
theorem z13_10 {P : Prop} (h : P := by (with_reducible repeat (first | refine blk_drewN ?_ _ | refine blk_drew ?_ | refine blk_alloc ?_ _)); exact BK288.out) : P := h
theorem z13_9 {P : Prop} (h : P := by (try simp only [List.map_toArray, List.map_cons, List.map_nil]); first | done | (simp only [hji12]; rfl) | rfl | (simp only [List.length_drop, List.length_take]; rfl)) : P := h
theorem z13_8 {P : Prop} (h : P := by first | rfl | (simp [errW_none, errW_some] <;> rfl) | (simp [*, errW_none, errW_some] <;> rfl)) : P := h
theorem z13_7 {P : Prop} (h : P := by first | (with_reducible assumption) | assumption) : P := h
theorem z13_6 {P : Prop} (h : P := by first | rfl | (simp only [List.map_toArray, List.map_cons, List.map_nil]; first | done | rfl)) : P := h
theorem z13_5 {P : Prop} (h : P := by kernel_rfl) : P := h
theorem z13_4 {P : Prop} (h : P := by repeat (first | (with_reducible first | exact HB.out | apply below_alloc | apply pw_below_drewN | apply below_drew1 | refine below_set ?_ GE288.out) | exact HB.out)) : P := h
theorem z13_3 {P : Prop} (h : P := by repeat (first | (with_reducible first | exact HB.out | apply below_alloc | apply pw_below_drewN | apply below_drew1) | exact HB.out)) : P := h
theorem z13_2 {P : Prop} (h : P := by intro w'; go_simp; with_reducible rfl) : P := h
theorem z13_1 {P : Prop} (h : P := by (with_reducible repeat (first | refine blk_drewN ?_ _ | refine blk_drew ?_ | refine blk_alloc ?_ _)); refine blk_put (cs := #[.string ((rd_T84 l0 x7_1).f0), .int .i64 ((rd_T84 l0 x7_1).f1), .int .i64 0]) ?_ 2 _ rfl; (with_reducible repeat (first | refine blk_drewN ?_ _ | refine blk_drew ?_ | refine blk_alloc ?_ _)); refine blk_put (cs := #[.string ((rd_T84 l0 x7_1).f0), .int .i64 0, .int .i64 0]) ?_ 1 _ rfl; (with_reducible repeat (first | refine blk_drewN ?_ _ | refine blk_drew ?_ | refine blk_alloc ?_ _)); refine blk_put (cs := #[.string (⟨#[]⟩ : ByteArray), .int .i64 0, .int .i64 0]) ?_ 0 _ rfl; (with_reducible repeat (first | refine blk_drewN ?_ _ | refine blk_drew ?_ | refine blk_alloc ?_ _)); exact BK288.out) : P := h
theorem z13_0 {P : Prop} (h : P := by simp only [Act.put, List.setIfInBounds_toArray, List.set_cons_zero, List.set_cons_succ, i64_w, i32_w]; rfl) : P := h
abbrev mk13_0 : Array Bool := #[false, false, false, false, false, false, false, false, false, false, false, false, false, false, false, false, false, false, false, false, false, false, false, false, false, false, false, false, false, false]
abbrev mk13_1 : Array Bool := #[true, false, false, false, false, false, false, false, false, false, false, false, false, false, false, false, false, false, false, false, false, false, false, false, false, false, false, false, false, false]
abbrev mk13_2 : Array Bool := #[true, true, false, false, false, false, false, false, false, false, false, false, false, false, false, false, false, false, false, false, false, false, false, false, false, false, false, false, false, false]
abbrev mk13_3 : Array Bool := #[true, true, true, false, false, false, false, false, false, false, false, false, false, false, false, false, false, false, false, false, false, false, false, false, false, false, false, false, false, false]
abbrev mk13_4 : Array Bool := #[true, true, true, true, false, false, false, false, false, false, false, false, false, false, false, false, false, false, false, false, false, false, false, false, false, false, false, false, false, false]
abbrev mk13_5 : Array Bool := #[true, true, true, true, true, false, false, false, false, false, false, false, false, false, false, false, false, false, false, false, false, false, false, false, false, false, false, false, false, false]
abbrev mk13_6 : Array Bool := #[true, true, true, true, true, true, false, false, false, false, false, false, false, false, false, false, false, false, false, false, false, false, false, false, false, false, false, false, false, false]
abbrev mk13_7 : Array Bool := #[true, true, true, true, true, true, true, false, false, false, false, false, false, false, false, false, false, false, false, false, false, false, false, false, false, false, false, false, false, false]
abbrev mk13_8 : Array Bool := #[true, true, true, true, true, true, true, true, false, false, false, false, false, false, false, false, false, false, false, false, false, false, false, false, false, false, false, false, false, false]
abbrev mk13_9 : Array Bool := #[true, true, true, true, true, true, true, true, true, false, false, false, false, false, false, false, false, false, false, false, false, false, false, false, false, false, false, false, false, false]
abbrev mk13_10 : Array Bool := #[true, true, true, true, true, true, true, true, true, true, false, false, false, false, false, false, false, false, false, false, false, false, false, false, false, false, false, false, false, false]
abbrev mk13_11 : Array Bool := #[true, true, true, true, true, true, true, true, true, true, true, false, false, false, false, false, false, false, false, false, false, false, false, false, false, false, false, false, false, false]
abbrev mk13_12 : Array Bool := #[true, true, true, true, true, true, true, true, true, true, true, true, false, false, false, false, false, false, false, false, false, false, false, false, false, false, false, false, false, false]
abbrev mk13_13 : Array Bool := #[true, true, true, true, true, true, true, true, true, true, true, true, true, false, false, false, false, false, false, false, false, false, false, false, false, false, false, false, false, false]
abbrev mk13_14 : Array Bool := #[true, true, true, true, true, true, true, true, true, true, true, true, true, true, false, false, false, false, false, false, false, false, false, false, false, false, false, false, false, false]
abbrev mk13_15 : Array Bool := #[true, true, true, true, true, true, true, true, true, true, true, true, true, true, true, false, false, false, false, false, false, false, false, false, false, false, false, false, false, false]
abbrev mk13_16 : Array Bool := #[true, true, true, true, true, true, true, true, true, true, true, true, true, true, true, true, false, false, false, false, false, false, false, false, false, false, false, false, false, false]
abbrev mk13_17 : Array Bool := #[true, true, true, true, true, true, true, true, true, true, true, true, true, true, true, true, true, false, false, false, false, false, false, false, false, false, false, false, false, false]
abbrev mk13_18 : Array Bool := #[true, true, true, true, true, true, true, true, true, true, true, true, true, true, true, true, true, true, false, false, false, false, false, false, false, false, false, false, false, false]
abbrev mk13_19 : Array Bool := #[true, true, true, true, true, true, true, true, true, true, true, true, true, true, true, true, true, true, true, false, false, false, false, false, false, false, false, false, false, false]
abbrev mk13_20 : Array Bool := #[true, true, true, true, true, true, true, true, true, true, true, true, true, true, true, true, true, true, true, true, false, false, false, false, false, false, false, false, false, false]
abbrev mk13_21 : Array Bool := #[true, true, true, true, true, true, true, true, true, true, true, true, true, true, true, true, true, true, true, true, true, false, false, false, false, false, false, false, false, false]
abbrev mk13_22 : Array Bool := #[true, true, true, true, true, true, true, true, true, true, true, true, true, true, true, true, true, true, true, true, true, true, false, false, false, false, false, false, false, false]
abbrev mk13_23 : Array Bool := #[true, true, true, true, true, true, true, true, true, true, true, true, true, true, true, true, true, true, true, true, true, true, true, false, false, false, false, false, false, false]
abbrev mk13_24 : Array Bool := #[true, true, true, true, true, true, true, true, true, true, true, true, true, true, true, true, true, true, true, true, true, true, true, true, false, false, false, false, false, false]
abbrev mk13_25 : Array Bool := #[true, true, true, true, true, true, true, true, true, true, true, true, true, true, true, true, true, true, true, true, true, true, true, true, true, false, false, false, false, false]
abbrev mk13_26 : Array Bool := #[true, true, true, true, true, true, true, true, true, true, true, true, true, true, true, true, true, true, true, true, true, true, true, true, true, true, false, false, false, false]
abbrev mk13_27 : Array Bool := #[true, true, true, true, true, true, true, true, true, true, true, true, true, true, true, true, true, true, true, true, true, true, true, true, true, true, true, false, false, false]
abbrev mk13_28 : Array Bool := #[true, true, true, true, true, true, true, true, true, true, true, true, true, true, true, true, true, true, true, true, true, true, true, true, true, true, true, true, false, false]
abbrev mk13_29 : Array Bool := #[true, true, true, true, true, true, true, true, true, true, true, true, true, true, true, true, true, true, true, true, true, true, true, true, true, true, true, true, true, false]
abbrev mk13_30 : Array Bool := #[true, true, true, true, true, true, true, true, true, true, true, true, true, true, true, true, true, true, true, true, true, true, true, true, true, true, true, true, true, true]
def impl_talliesOk.l0 : Nat → List (S84) → List (S84) → Int → Int → Option (Bool)
  | 0, _, _, _, _ => none
  | k + 1, x0, x5, x6, x7 => if x7 < x6 then (if 0 ≤ x7 then (if x7 < (x5.length : Int) then ((impl_NameOk.f k ((rd_T84 x5 x7).f0)).bind fun t289 => (if t289 = true then ((impl_within.f ((rd_T84 x5 x7).f1) 0 2).bind fun t290 => (if t290 = true then ((impl_within.f ((rd_T84 x5 x7).f2) 0 999999).bind fun t291 => (if t291 = true then (if x7 > 0 then (if 0 ≤ (wrap64 (x7 - 1)) then (if (wrap64 (x7 - 1)) < (x0.length : Int) then ((impl_compareTallies.f k ((rd_T84 x0 (wrap64 (x7 - 1))).f0) ((rd_T84 x0 (wrap64 (x7 - 1))).f1) ((rd_T84 x0 (wrap64 (x7 - 1))).f2) ((rd_T84 x5 x7).f0) ((rd_T84 x5 x7).f1) ((rd_T84 x5 x7).f2)).bind fun t293 => (if t293 ≥ 0 then (some false) else (impl_talliesOk.l0 k x0 x5 x6 (wrap64 (x7 + 1))))) else (none)) else (none)) else (impl_talliesOk.l0 k x0 x5 x6 (wrap64 (x7 + 1)))) else (some false))) else (some false))) else (some false))) else (none)) else (none)) else (some (decide ((x0.length : Int) ≤ 120)))
def impl_talliesOk.f (k : Nat) (l0 : List (S84)) : Option (Bool) := impl_talliesOk.l0 k l0 l0 (l0.length : Int) 0
def impl_talliesOk.T4 : Bool × List (List Nat × List Nat) := (true, [([], []), ([0], [0]), ([1], [1]), ([2], [2]), ([3, 2], [3]), ([4], [4]), ([5, 4], [4, 5]), ([6, 4, 4], [4, 6]), ([7, 4], [4, 7]), ([4, 8], [4, 8]), ([9, 7], [9]), ([10], [10]), ([11, 10], [10, 11]), ([12, 10, 10], [10, 12]), ([13, 10], [10, 13]), ([10, 14], [10, 14]), ([15, 13], [15]), ([16], [16]), ([17, 16], [16, 17]), ([18, 16, 16], [16, 18]), ([19], [19]), ([19], [19]), ([21, 19], [19, 21]), ([20, 22, 19], [19, 20, 22]), ([23, 19], [19, 23]), ([19], [19]), ([24, 25, 19, 19], [19, 24, 25]), ([26, 19], [19, 26]), ([19, 27, 16], [16, 19, 27]), ([16, 28], [16, 28])])
def impl_talliesOk.B4 : List Nat := [0, 1, 3, 7, 15, 31, 63, 127, 255, 511, 1023, 2047, 4095, 8191, 16383, 32767, 65535, 131071, 262143, 524287, 1048575, 1048575, 3145727, 8388607, 16777215, 1048575, 67108863, 134217727, 268435455, 536870911]
theorem impl_talliesOk.tab4 : rtab .any (opsOf Try.f62 4) = impl_talliesOk.T4 := by kernel_rfl
theorem impl_talliesOk.bits4 : waitsOk impl_talliesOk.T4.2 impl_talliesOk.B4 = true := by kernel_rfl
set_option maxHeartbeats 8000000 in
set_option maxRecDepth 100000 in
theorem impl_talliesOk.calls (k : Nat) (A0 : Option Addr) (c0 : Nat) (l0 : List (S84)) (r : Bool) (w : World) (hr0 : Kd.C k84 w A0 l0.length l0) (hc0 : l0.length ≤ c0) (h : impl_talliesOk.f k l0 = some r) :
  Calls Try.prog 62 #[.slice A0 l0.length c0] w fun e w' => e = .returned (.bool r) ∧ Below w.heap.size w w' := by
 have hu84 := Try.underlying84
 have HR0 := Aside0.mk hr0
 have HC0 := Aside0.mk hc0
 clear hr0 hc0
 have HB := Aside0.mk (Below.refl w.heap.size w)
 have H : (impl_talliesOk.l0 k l0 l0 (l0.length : Int) 0) = some r := h
 clear h
 have H' := Aside0.mk H
 clear H
 go_enter Try.func62, Try.ntmps62
 go_wp2
 go_loopg [7] k (fun kq v7 w' => ∃ (x7_1 : Int), v7 = .int .i64 x7_1 ∧ Aside0 (impl_talliesOk.l0 kq l0 l0 (l0.length : Int) x7_1 = some r) ∧ Aside0 (kq ≤ k) ∧ Aside0 (Below w.heap.size w w'))
 case atStart => exact ⟨(0), (by first | rfl | (simp; done) | (simp [*]; done)), H', ⟨Nat.le_refl _⟩, ⟨z13_3⟩⟩
 case round =>
  clear H'
  obtain ⟨x7_1, rfl, HA, HK1, HB⟩ := hrel
  cases gk with
  | zero => exact absurd HA.out (by simp [impl_talliesOk.l0])
  | succ k1 =>
   have H := HA.out
   clear HA
   simp only [impl_talliesOk.l0] at H
   by_cases c2 : x7_1 < (l0.length : Int)
   ·
    rw [if_pos c2] at H
    have c2b0 : decide (x7_1 < (l0.length : Int)) = true := decide_eq_true c2
    clear c2
    by_cases c3 : 0 ≤ x7_1
    ·
     rw [if_pos c3] at H
     have c3b0 : decide (0 ≤ x7_1) = true := decide_eq_true c3
     clear c3
     by_cases c4 : x7_1 < (l0.length : Int)
     ·
      rw [if_pos c4] at H
      have c4b0 : decide (x7_1 < (l0.length : Int)) = true := decide_eq_true c4
      clear c4
      replace H := Option.bind_eq_some_iff.mp H
      obtain ⟨t289, A50, H⟩ := H
      (try dsimp only at H)
      have A5 := Aside0.mk A50
      clear A50
      by_cases c6 : t289 = true
      ·
       subst c6
       rw [if_pos rfl] at H
       replace H := Option.bind_eq_some_iff.mp H
       obtain ⟨t290, A70, H⟩ := H
       (try dsimp only at H)
       have A7 := Aside0.mk A70
       clear A70
       by_cases c8 : t290 = true
       ·
        subst c8
        rw [if_pos rfl] at H
        replace H := Option.bind_eq_some_iff.mp H
        obtain ⟨t291, A90, H⟩ := H
        (try dsimp only at H)
        have A9 := Aside0.mk A90
        clear A90
        by_cases c10 : t291 = true
        ·
         subst c10
         rw [if_pos rfl] at H
         by_cases c11 : x7_1 > 0
         ·
          rw [if_pos c11] at H
          have c11b0 : decide (0 < x7_1) = true := decide_eq_true c11
          clear c11
          obtain ⟨ji12, hji12⟩ : ∃ j_ : Int, (wrap64 (x7_1 - 1)) = j_ := ⟨_, rfl⟩
          replace H : (if 0 ≤ (ji12) then (if (ji12) < (l0.length : Int) then ((impl_compareTallies.f k1 ((rd_T84 l0 (ji12)).f0) ((rd_T84 l0 (ji12)).f1) ((rd_T84 l0 (ji12)).f2) ((rd_T84 l0 x7_1).f0) ((rd_T84 l0 x7_1).f1) ((rd_T84 l0 x7_1).f2)).bind fun t293 => (if t293 ≥ 0 then (some false) else (impl_talliesOk.l0 k1 l0 l0 (l0.length : Int) (wrap64 (x7_1 + 1))))) else (none)) else (none)) = some r := by first | (rw [hji12] at H; exact H) | (simp only [hji12] at H ⊢; exact H)
          (try rw [hji12] at A5)
          (try rw [hji12] at A7)
          (try rw [hji12] at A9)
          have hji12w : (IntKind.i64.wrap (x7_1 - 1)) = ji12 := (i64_w _).trans hji12
          by_cases c13 : 0 ≤ (ji12)
          ·
           rw [if_pos c13] at H
           have c13b0 : decide (0 ≤ (ji12)) = true := decide_eq_true c13
           clear c13
           by_cases c14 : (ji12) < (l0.length : Int)
           ·
            rw [if_pos c14] at H
            have c14b0 : decide ((ji12) < (l0.length : Int)) = true := decide_eq_true c14
            clear c14
            replace H := Option.bind_eq_some_iff.mp H
            obtain ⟨t293, A150, H⟩ := H
            (try dsimp only at H)
            have A15 := Aside0.mk A150
            clear A150
            by_cases c16 : t293 ≥ 0
            ·
             rw [if_pos c16] at H
             have c16b0 : decide (0 ≤ t293) = true := decide_eq_true c16
             clear c16
             obtain rfl := Option.some.inj H
             have p287 : 0 ≤ (x7_1 : Int) := of_decide_eq_true z13_7
             have q287 : x7_1 < (l0.length : Int) := of_decide_eq_true z13_7
             obtain ⟨ad287, e287, hx287_0, hx287_1, hx287_2⟩ := at_T84 HR0.out x7_1 p287 q287
             cases e287
             replace hx287_0 := cb_ HB hx287_0
             replace hx287_1 := cb_ HB hx287_1
             replace hx287_2 := cb_ HB hx287_2
             replace p287 := eq_true p287
             replace q287 := eq_true q287
             try go_wp2_with (first | ((with_reducible refine gate_dst (N := 4) rfl ?_); refine box_event ?hg (N := 4) ?hd (cs := #[.string (⟨#[]⟩ : ByteArray), .int .i64 0, .int .i64 0]) (t := 84) ?hr ?_; (case hd => rfl); (case hg => rfl); (case hr => first | (go_simp; done) | (go_simp; rfl)); intro gb288 hg w17 hbox hb; have BK288 := Aside0.mk (hbox); have GW288 := gw_ w z13_3 hg; have GE288 := gw_ w z13_3 hg; replace HB := Aside0.mk (below_step z13_3 hb); clear hb hbox hg; obtain ⟨hcz18_0, hcz18_1, hcz18_2, hfz18_0, hfz18_1, hfz18_2⟩ := bc3 BK288.out))
             have n0_ : Aside0 ((((w17.setCell ⟨gb288, 0, none⟩ (.string ((rd_T84 l0 x7_1).f0))).setCell ⟨gb288, 1, none⟩ (.int .i64 ((rd_T84 l0 x7_1).f1))).setCell ⟨gb288, 2, none⟩ (.int .i64 ((rd_T84 l0 x7_1).f2))).heap[gb288]? = some (.cells #[.string ((rd_T84 l0 x7_1).f0), .int .i64 ((rd_T84 l0 x7_1).f1), .int .i64 ((rd_T84 l0 x7_1).f2)] 84 (0, 0))) := ⟨z13_1⟩
             have n1_ : Aside0 (Below w.heap.size w (((w17.setCell ⟨gb288, 0, none⟩ (.string ((rd_T84 l0 x7_1).f0))).setCell ⟨gb288, 1, none⟩ (.int .i64 ((rd_T84 l0 x7_1).f1))).setCell ⟨gb288, 2, none⟩ (.int .i64 ((rd_T84 l0 x7_1).f2)))) := ⟨z13_4⟩
             (try clear BK288)
             (try clear HB)
             generalize (((w17.setCell ⟨gb288, 0, none⟩ (.string ((rd_T84 l0 x7_1).f0))).setCell ⟨gb288, 1, none⟩ (.int .i64 ((rd_T84 l0 x7_1).f1))).setCell ⟨gb288, 2, none⟩ (.int .i64 ((rd_T84 l0 x7_1).f2))) = w19 at n0_ n1_ ⊢
             have BK288 := n0_
             have HB := n1_
             clear n0_ n1_
             replace BK288 := Aside0.mk (blk_drew BK288.out)
             replace HB := Aside0.mk (below_drew1 HB.out)
             have p292 : 0 ≤ ((ji12) : Int) := of_decide_eq_true z13_7
             have q292 : (ji12) < (l0.length : Int) := of_decide_eq_true z13_7
             obtain ⟨ad292, e292, hx292_0, hx292_1, hx292_2⟩ := at_T84 HR0.out (ji12) p292 q292
             have hw292_2 := hx292_2
             have hw292_1 := hx292_1
             have hw292_0 := hx292_0
             obtain rfl : ad287 = ad292 := (by injection e292)
             replace hx292_0 := cb_ HB hx292_0
             replace hx292_1 := cb_ HB hx292_1
             replace hx292_2 := cb_ HB hx292_2
             replace p292 := eq_true p292
             replace q292 := eq_true q292
             refine start_ (n := 30) (S := fun w' => w'.cell? ⟨gb288, 0, none⟩ = some (.string ((rd_T84 l0 x7_1).f0)) ∧ w'.cell? ⟨gb288, 1, none⟩ = some (.int .i64 ((rd_T84 l0 x7_1).f1)) ∧ w'.cell? ⟨gb288, 2, none⟩ = some (.int .i64 ((rd_T84 l0 x7_1).f2)) ∧ w'.cell? (ad287.add (((ji12)).toNat * 3)) = some (.string ((rd_T84 l0 (ji12)).f0)) ∧ w'.cell? ⟨(ad287.add (((ji12)).toNat * 3)).block, (ad287.add (((ji12)).toNat * 3)).off + 1, none⟩ = some (.int .i64 ((rd_T84 l0 (ji12)).f1)) ∧ w'.cell? ⟨(ad287.add (((ji12)).toNat * 3)).block, (ad287.add (((ji12)).toNat * 3)).off + 2, none⟩ = some (.int .i64 ((rd_T84 l0 (ji12)).f2))) (ds := []) mk13_0 z13_5 rfl rfl ⟨bc_ BK288 0, bc_ BK288 1, bc_ BK288 2, (cb_ HB hw292_0), (cb_ HB hw292_1), (cb_ HB hw292_2)⟩ (fun hHeld => ?_); refine with_tabW impl_talliesOk.tab4 impl_talliesOk.bits4 (fun HT_ HW_ => ?_)
             generalize w19.drew = w20 at BK288 HB hx292_0 hx292_1 hx292_2 hHeld ⊢
             refine p_ (i := 0) (N := some 12) mk13_1 ?_ (hv := z13_2) (ha := z13_0)
             refine t_ (i := 1) (N := some 13) mk13_2 hHeld ?_ (hv := by rintro w' ⟨s0, s1, s2, s3, s4, s5⟩; go_simp; with_reducible rfl) (ha := z13_0)
             refine o_ (i := 2) (N := some 14) mk13_3 (fun K hK => ?_)
             refine goes_ Try.func107 z13_5 rfl #[.string ((rd_T84 l0 x7_1).f0)] (by rfl) rfl rfl z13_6 ?_
             with_reducible refine (impl_NameOk.calls k1 ((rd_T84 l0 x7_1).f0) true _ A5.out).mono ?_
             rintro e w' ⟨rfl, ⟨nd, rfl⟩⟩
             refine ⟨_, rfl, ?_⟩
             refine hK.out _ _ ⟨bc_ BK288 0, bc_ BK288 1, bc_ BK288 2, (cb_ HB hw292_0), (cb_ HB hw292_1), (cb_ HB hw292_2)⟩ (fun hHeld => ?_)
             clear hK K
             refine n_ ?_
             refine p_ (i := 3) (N := some 15) mk13_4 ?_ (hv := z13_2) (ha := z13_0)
             refine p_ (i := 4) (N := some 16) mk13_5 ?_ (hv := z13_2) (ha := z13_0)
             refine p_ (i := 5) (N := some 17) mk13_6 ?_ (hv := z13_2) (ha := z13_0)
             refine t_ (i := 6) (N := some 18) mk13_7 hHeld ?_ (hv := by rintro w' ⟨s0, s1, s2, s3, s4, s5⟩; go_simp; with_reducible rfl) (ha := z13_0)
             refine o_ (i := 7) (N := some 19) mk13_8 (fun K hK => ?_)
             refine goes_ Try.func106 z13_5 rfl #[.int .i64 ((rd_T84 l0 x7_1).f1), .int .i64 0, .int .i64 2] (by rfl) rfl rfl z13_6 ?_
             with_reducible refine (impl_within.calls ((rd_T84 l0 x7_1).f1) 0 2 true _ A7.out).mono ?_
             rintro e w' ⟨rfl, ⟨nd, rfl⟩⟩
             refine ⟨_, rfl, ?_⟩
             refine hK.out _ _ ⟨bc_ BK288 0, bc_ BK288 1, bc_ BK288 2, (cb_ HB hw292_0), (cb_ HB hw292_1), (cb_ HB hw292_2)⟩ (fun hHeld => ?_)
             clear hK K
             refine n_ ?_
             refine p_ (i := 8) (N := some 20) mk13_9 ?_ (hv := z13_2) (ha := z13_0)
             refine p_ (i := 9) (N := some 21) mk13_10 ?_ (hv := z13_2) (ha := z13_0)
             refine p_ (i := 10) (N := some 22) mk13_11 ?_ (hv := z13_2) (ha := z13_0)
             refine p_ (i := 11) (N := some 23) mk13_12 ?_ (hv := z13_2) (ha := z13_0)
             refine t_ (i := 12) (N := some 24) mk13_13 hHeld ?_ (hv := by rintro w' ⟨s0, s1, s2, s3, s4, s5⟩; go_simp; with_reducible rfl) (ha := z13_0)
             refine o_ (i := 13) (N := some 25) mk13_14 (fun K hK => ?_)
             refine goes_ Try.func106 z13_5 rfl #[.int .i64 ((rd_T84 l0 x7_1).f2), .int .i64 0, .int .i64 999999] (by rfl) rfl rfl z13_6 ?_
             with_reducible refine (impl_within.calls ((rd_T84 l0 x7_1).f2) 0 999999 true _ A9.out).mono ?_
             rintro e w' ⟨rfl, ⟨nd, rfl⟩⟩
             refine ⟨_, rfl, ?_⟩
             refine hK.out _ _ ⟨bc_ BK288 0, bc_ BK288 1, bc_ BK288 2, (cb_ HB hw292_0), (cb_ HB hw292_1), (cb_ HB hw292_2)⟩ (fun hHeld => ?_)
             clear hK K
             refine n_ ?_
             refine p_ (i := 14) (N := some 26) mk13_15 ?_ (hv := z13_2) (ha := z13_0)
             refine p_ (i := 15) (N := some 27) mk13_16 ?_ (hv := z13_2) (ha := z13_0)
             refine p_ (i := 16) (N := some 28) mk13_17 ?_ (hv := z13_2) (ha := z13_0)
             refine p_ (i := 17) (N := some 29) mk13_18 ?_ (hv := z13_2) (ha := z13_0)
             refine p_ (i := 18) (N := some 30) mk13_19 ?_ (hv := z13_2) (ha := z13_0)
             refine p_ (i := 19) (N := some 31) mk13_20 ?_ (hv := z13_2) (ha := z13_0)
             refine p_ (i := 20) (N := some 32) mk13_21 ?_ (hv := z13_2) (ha := z13_0)
             refine p_ (i := 21) (N := some 33) mk13_22 ?_ (hv := z13_2) (ha := z13_0)
             refine p_ (i := 22) (N := some 34) mk13_23 ?_ (hv := z13_2) (ha := z13_0)
             refine p_ (i := 23) (N := some 35) mk13_24 ?_ (hv := z13_2) (ha := z13_0)
             refine t_ (i := 24) (N := some 36) mk13_25 hHeld ?_ (hv := by rintro w' ⟨s0, s1, s2, s3, s4, s5⟩; go_simp; with_reducible rfl) (ha := z13_0)
             refine t_ (i := 25) (N := some 37) mk13_26 hHeld ?_ (hv := by rintro w' ⟨s0, s1, s2, s3, s4, s5⟩; go_simp; with_reducible rfl) (ha := z13_0)
             refine o_ (i := 26) (N := some 38) mk13_27 (fun K hK => ?_)
             refine goes_ Try.func108 z13_5 rfl #[.agg #[.string ((rd_T84 l0 (ji12)).f0), .int .i64 ((rd_T84 l0 (ji12)).f1), .int .i64 ((rd_T84 l0 (ji12)).f2)], .agg #[.string ((rd_T84 l0 x7_1).f0), .int .i64 ((rd_T84 l0 x7_1).f1), .int .i64 ((rd_T84 l0 x7_1).f2)]] (by rfl) rfl rfl z13_9 ?_
             with_reducible refine (impl_compareTallies.calls k1 ((rd_T84 l0 (ji12)).f0) ((rd_T84 l0 (ji12)).f1) ((rd_T84 l0 (ji12)).f2) ((rd_T84 l0 x7_1).f0) ((rd_T84 l0 x7_1).f1) ((rd_T84 l0 x7_1).f2) t293 _ A15.out).mono ?_
             rintro e w21 ⟨rfl, hb⟩
             refine ⟨_, rfl, ?_⟩
             replace BK288 := Aside0.mk (blk_below (g := gb288) (o := .cells #[.string ((rd_T84 l0 x7_1).f0), .int .i64 ((rd_T84 l0 x7_1).f1), .int .i64 ((rd_T84 l0 x7_1).f2)] 84 (0, 0)) z13_10 hb)
             replace HB := Aside0.mk (below_step z13_4 hb)
             (try clear hb)
             (try clear hb2)
             (try clear hk)
             (try clear hi)
             refine hK.out _ _ ⟨bc_ BK288 0, bc_ BK288 1, bc_ BK288 2, (cb_ HB hw292_0), (cb_ HB hw292_1), (cb_ HB hw292_2)⟩ (fun hHeld => ?_)
             clear hK K
             refine n_ ?_
             refine p_ (i := 27) (N := some 39) mk13_28 ?_ (hv := z13_2) (ha := z13_0)
             refine p_ (i := 28) (N := some 40) mk13_29 ?_ (hv := z13_2) (ha := z13_0)
             refine p_ (i := 29) (N := some 41) mk13_30 ?_ (hv := z13_2) (ha := z13_0)
             refine done_ (done_of HT_.out z13_5) ?_
             try go_wp2
             go_ret
             exact ⟨by first | rfl | (simp [errW_none, errW_some] <;> rfl) | (simp only [← hji12]; first | rfl | (simp [errW_none, errW_some] <;> rfl)) | (simp [*, errW_none, errW_some] <;> rfl), z13_4⟩
            ·
             rw [if_neg c16] at H
             have c16b0 : decide (0 ≤ t293) = false := decide_eq_false c16
             clear c16
             have H' := Aside0.mk H
             clear H
             have p287 : 0 ≤ (x7_1 : Int) := of_decide_eq_true z13_7
             have q287 : x7_1 < (l0.length : Int) := of_decide_eq_true z13_7
             obtain ⟨ad287, e287, hx287_0, hx287_1, hx287_2⟩ := at_T84 HR0.out x7_1 p287 q287
             cases e287
             replace hx287_0 := cb_ HB hx287_0
             replace hx287_1 := cb_ HB hx287_1
             replace hx287_2 := cb_ HB hx287_2
             replace p287 := eq_true p287
             replace q287 := eq_true q287
             try go_wp2_with (first | ((with_reducible refine gate_dst (N := 4) rfl ?_); refine box_event ?hg (N := 4) ?hd (cs := #[.string (⟨#[]⟩ : ByteArray), .int .i64 0, .int .i64 0]) (t := 84) ?hr ?_; (case hd => rfl); (case hg => rfl); (case hr => first | (go_simp; done) | (go_simp; rfl)); intro gb288 hg w22 hbox hb; have BK288 := Aside0.mk (hbox); have GW288 := gw_ w z13_3 hg; have GE288 := gw_ w z13_3 hg; replace HB := Aside0.mk (below_step z13_3 hb); clear hb hbox hg; obtain ⟨hcz23_0, hcz23_1, hcz23_2, hfz23_0, hfz23_1, hfz23_2⟩ := bc3 BK288.out))
             have n0_ : Aside0 ((((w22.setCell ⟨gb288, 0, none⟩ (.string ((rd_T84 l0 x7_1).f0))).setCell ⟨gb288, 1, none⟩ (.int .i64 ((rd_T84 l0 x7_1).f1))).setCell ⟨gb288, 2, none⟩ (.int .i64 ((rd_T84 l0 x7_1).f2))).heap[gb288]? = some (.cells #[.string ((rd_T84 l0 x7_1).f0), .int .i64 ((rd_T84 l0 x7_1).f1), .int .i64 ((rd_T84 l0 x7_1).f2)] 84 (0, 0))) := ⟨z13_1⟩
             have n1_ : Aside0 (Below w.heap.size w (((w22.setCell ⟨gb288, 0, none⟩ (.string ((rd_T84 l0 x7_1).f0))).setCell ⟨gb288, 1, none⟩ (.int .i64 ((rd_T84 l0 x7_1).f1))).setCell ⟨gb288, 2, none⟩ (.int .i64 ((rd_T84 l0 x7_1).f2)))) := ⟨z13_4⟩
             (try clear BK288)
             (try clear HB)
             generalize (((w22.setCell ⟨gb288, 0, none⟩ (.string ((rd_T84 l0 x7_1).f0))).setCell ⟨gb288, 1, none⟩ (.int .i64 ((rd_T84 l0 x7_1).f1))).setCell ⟨gb288, 2, none⟩ (.int .i64 ((rd_T84 l0 x7_1).f2))) = w24 at n0_ n1_ ⊢
             have BK288 := n0_
             have HB := n1_
             clear n0_ n1_
             replace BK288 := Aside0.mk (blk_drew BK288.out)
             replace HB := Aside0.mk (below_drew1 HB.out)
             have p292 : 0 ≤ ((ji12) : Int) := of_decide_eq_true z13_7
             have q292 : (ji12) < (l0.length : Int) := of_decide_eq_true z13_7
             obtain ⟨ad292, e292, hx292_0, hx292_1, hx292_2⟩ := at_T84 HR0.out (ji12) p292 q292
             have hw292_2 := hx292_2
             have hw292_1 := hx292_1
             have hw292_0 := hx292_0
             obtain rfl : ad287 = ad292 := (by injection e292)
             replace hx292_0 := cb_ HB hx292_0
             replace hx292_1 := cb_ HB hx292_1
             replace hx292_2 := cb_ HB hx292_2
             replace p292 := eq_true p292
             replace q292 := eq_true q292
             refine start_ (n := 30) (S := fun w' => w'.cell? ⟨gb288, 0, none⟩ = some (.string ((rd_T84 l0 x7_1).f0)) ∧ w'.cell? ⟨gb288, 1, none⟩ = some (.int .i64 ((rd_T84 l0 x7_1).f1)) ∧ w'.cell? ⟨gb288, 2, none⟩ = some (.int .i64 ((rd_T84 l0 x7_1).f2)) ∧ w'.cell? (ad287.add (((ji12)).toNat * 3)) = some (.string ((rd_T84 l0 (ji12)).f0)) ∧ w'.cell? ⟨(ad287.add (((ji12)).toNat * 3)).block, (ad287.add (((ji12)).toNat * 3)).off + 1, none⟩ = some (.int .i64 ((rd_T84 l0 (ji12)).f1)) ∧ w'.cell? ⟨(ad287.add (((ji12)).toNat * 3)).block, (ad287.add (((ji12)).toNat * 3)).off + 2, none⟩ = some (.int .i64 ((rd_T84 l0 (ji12)).f2))) (ds := []) mk13_0 z13_5 rfl rfl ⟨bc_ BK288 0, bc_ BK288 1, bc_ BK288 2, (cb_ HB hw292_0), (cb_ HB hw292_1), (cb_ HB hw292_2)⟩ (fun hHeld => ?_); refine with_tabW impl_talliesOk.tab4 impl_talliesOk.bits4 (fun HT_ HW_ => ?_)
             generalize w24.drew = w25 at BK288 HB hx292_0 hx292_1 hx292_2 hHeld ⊢
             refine p_ (i := 0) (N := some 12) mk13_1 ?_ (hv := z13_2) (ha := z13_0)
             refine t_ (i := 1) (N := some 13) mk13_2 hHeld ?_ (hv := by rintro w' ⟨s0, s1, s2, s3, s4, s5⟩; go_simp; with_reducible rfl) (ha := z13_0)
             refine o_ (i := 2) (N := some 14) mk13_3 (fun K hK => ?_)
             refine goes_ Try.func107 z13_5 rfl #[.string ((rd_T84 l0 x7_1).f0)] (by rfl) rfl rfl z13_6 ?_
             with_reducible refine (impl_NameOk.calls k1 ((rd_T84 l0 x7_1).f0) true _ A5.out).mono ?_
             rintro e w' ⟨rfl, ⟨nd, rfl⟩⟩
             refine ⟨_, rfl, ?_⟩
             refine hK.out _ _ ⟨bc_ BK288 0, bc_ BK288 1, bc_ BK288 2, (cb_ HB hw292_0), (cb_ HB hw292_1), (cb_ HB hw292_2)⟩ (fun hHeld => ?_)
             clear hK K
             refine n_ ?_
             refine p_ (i := 3) (N := some 15) mk13_4 ?_ (hv := z13_2) (ha := z13_0)
             refine p_ (i := 4) (N := some 16) mk13_5 ?_ (hv := z13_2) (ha := z13_0)
             refine p_ (i := 5) (N := some 17) mk13_6 ?_ (hv := z13_2) (ha := z13_0)
             refine t_ (i := 6) (N := some 18) mk13_7 hHeld ?_ (hv := by rintro w' ⟨s0, s1, s2, s3, s4, s5⟩; go_simp; with_reducible rfl) (ha := z13_0)
             refine o_ (i := 7) (N := some 19) mk13_8 (fun K hK => ?_)
             refine goes_ Try.func106 z13_5 rfl #[.int .i64 ((rd_T84 l0 x7_1).f1), .int .i64 0, .int .i64 2] (by rfl) rfl rfl z13_6 ?_
             with_reducible refine (impl_within.calls ((rd_T84 l0 x7_1).f1) 0 2 true _ A7.out).mono ?_
             rintro e w' ⟨rfl, ⟨nd, rfl⟩⟩
             refine ⟨_, rfl, ?_⟩
             refine hK.out _ _ ⟨bc_ BK288 0, bc_ BK288 1, bc_ BK288 2, (cb_ HB hw292_0), (cb_ HB hw292_1), (cb_ HB hw292_2)⟩ (fun hHeld => ?_)
             clear hK K
             refine n_ ?_
             refine p_ (i := 8) (N := some 20) mk13_9 ?_ (hv := z13_2) (ha := z13_0)
             refine p_ (i := 9) (N := some 21) mk13_10 ?_ (hv := z13_2) (ha := z13_0)
             refine p_ (i := 10) (N := some 22) mk13_11 ?_ (hv := z13_2) (ha := z13_0)
             refine p_ (i := 11) (N := some 23) mk13_12 ?_ (hv := z13_2) (ha := z13_0)
             refine t_ (i := 12) (N := some 24) mk13_13 hHeld ?_ (hv := by rintro w' ⟨s0, s1, s2, s3, s4, s5⟩; go_simp; with_reducible rfl) (ha := z13_0)
             refine o_ (i := 13) (N := some 25) mk13_14 (fun K hK => ?_)
             refine goes_ Try.func106 z13_5 rfl #[.int .i64 ((rd_T84 l0 x7_1).f2), .int .i64 0, .int .i64 999999] (by rfl) rfl rfl z13_6 ?_
             with_reducible refine (impl_within.calls ((rd_T84 l0 x7_1).f2) 0 999999 true _ A9.out).mono ?_
             rintro e w' ⟨rfl, ⟨nd, rfl⟩⟩
             refine ⟨_, rfl, ?_⟩
             refine hK.out _ _ ⟨bc_ BK288 0, bc_ BK288 1, bc_ BK288 2, (cb_ HB hw292_0), (cb_ HB hw292_1), (cb_ HB hw292_2)⟩ (fun hHeld => ?_)
             clear hK K
             refine n_ ?_
             refine p_ (i := 14) (N := some 26) mk13_15 ?_ (hv := z13_2) (ha := z13_0)
             refine p_ (i := 15) (N := some 27) mk13_16 ?_ (hv := z13_2) (ha := z13_0)
             refine p_ (i := 16) (N := some 28) mk13_17 ?_ (hv := z13_2) (ha := z13_0)
             refine p_ (i := 17) (N := some 29) mk13_18 ?_ (hv := z13_2) (ha := z13_0)
             refine p_ (i := 18) (N := some 30) mk13_19 ?_ (hv := z13_2) (ha := z13_0)
             refine p_ (i := 19) (N := some 31) mk13_20 ?_ (hv := z13_2) (ha := z13_0)
             refine p_ (i := 20) (N := some 32) mk13_21 ?_ (hv := z13_2) (ha := z13_0)
             refine p_ (i := 21) (N := some 33) mk13_22 ?_ (hv := z13_2) (ha := z13_0)
             refine p_ (i := 22) (N := some 34) mk13_23 ?_ (hv := z13_2) (ha := z13_0)
             refine p_ (i := 23) (N := some 35) mk13_24 ?_ (hv := z13_2) (ha := z13_0)
             refine t_ (i := 24) (N := some 36) mk13_25 hHeld ?_ (hv := by rintro w' ⟨s0, s1, s2, s3, s4, s5⟩; go_simp; with_reducible rfl) (ha := z13_0)
             refine t_ (i := 25) (N := some 37) mk13_26 hHeld ?_ (hv := by rintro w' ⟨s0, s1, s2, s3, s4, s5⟩; go_simp; with_reducible rfl) (ha := z13_0)
             refine o_ (i := 26) (N := some 38) mk13_27 (fun K hK => ?_)
             refine goes_ Try.func108 z13_5 rfl #[.agg #[.string ((rd_T84 l0 (ji12)).f0), .int .i64 ((rd_T84 l0 (ji12)).f1), .int .i64 ((rd_T84 l0 (ji12)).f2)], .agg #[.string ((rd_T84 l0 x7_1).f0), .int .i64 ((rd_T84 l0 x7_1).f1), .int .i64 ((rd_T84 l0 x7_1).f2)]] (by rfl) rfl rfl z13_9 ?_
             with_reducible refine (impl_compareTallies.calls k1 ((rd_T84 l0 (ji12)).f0) ((rd_T84 l0 (ji12)).f1) ((rd_T84 l0 (ji12)).f2) ((rd_T84 l0 x7_1).f0) ((rd_T84 l0 x7_1).f1) ((rd_T84 l0 x7_1).f2) t293 _ A15.out).mono ?_
             rintro e w26 ⟨rfl, hb⟩
             refine ⟨_, rfl, ?_⟩
             replace BK288 := Aside0.mk (blk_below (g := gb288) (o := .cells #[.string ((rd_T84 l0 x7_1).f0), .int .i64 ((rd_T84 l0 x7_1).f1), .int .i64 ((rd_T84 l0 x7_1).f2)] 84 (0, 0)) z13_10 hb)
             replace HB := Aside0.mk (below_step z13_4 hb)
             (try clear hb)
             (try clear hb2)
             (try clear hk)
             (try clear hi)
             refine hK.out _ _ ⟨bc_ BK288 0, bc_ BK288 1, bc_ BK288 2, (cb_ HB hw292_0), (cb_ HB hw292_1), (cb_ HB hw292_2)⟩ (fun hHeld => ?_)
             clear hK K
             refine n_ ?_
             refine p_ (i := 27) (N := some 39) mk13_28 ?_ (hv := z13_2) (ha := z13_0)
             refine p_ (i := 28) (N := some 40) mk13_29 ?_ (hv := z13_2) (ha := z13_0)
             refine p_ (i := 29) (N := some 41) mk13_30 ?_ (hv := z13_2) (ha := z13_0)
             refine done_ (done_of HT_.out z13_5) ?_
             try go_wp2
             go_roundg k1
             case measure => have := HK1.out; omega
             case rel => exact ⟨(wrap64 (x7_1 + 1)), (by first | rfl | (simp; done) | (simp [*]; done)), H', ⟨by have := HK1.out; omega⟩, ⟨z13_4⟩⟩
           ·
            rw [if_neg c14] at H
            exact absurd H (by simp)
          ·
           rw [if_neg c13] at H
           exact absurd H (by simp)
         ·
          rw [if_neg c11] at H
          have c11b0 : decide (0 < x7_1) = false := decide_eq_false c11
          clear c11
          have H' := Aside0.mk H
          clear H
          have p287 : 0 ≤ (x7_1 : Int) := of_decide_eq_true z13_7
          have q287 : x7_1 < (l0.length : Int) := of_decide_eq_true z13_7
          obtain ⟨ad287, e287, hx287_0, hx287_1, hx287_2⟩ := at_T84 HR0.out x7_1 p287 q287
          cases e287
          replace hx287_0 := cb_ HB hx287_0
          replace hx287_1 := cb_ HB hx287_1
          replace hx287_2 := cb_ HB hx287_2
          replace p287 := eq_true p287
          replace q287 := eq_true q287
          try go_wp2_with (first | ((with_reducible refine gate_dst (N := 4) rfl ?_); refine box_event ?hg (N := 4) ?hd (cs := #[.string (⟨#[]⟩ : ByteArray), .int .i64 0, .int .i64 0]) (t := 84) ?hr ?_; (case hd => rfl); (case hg => rfl); (case hr => first | (go_simp; done) | (go_simp; rfl)); intro gb288 hg w27 hbox hb; have BK288 := Aside0.mk (hbox); have GW288 := gw_ w z13_3 hg; have GE288 := gw_ w z13_3 hg; replace HB := Aside0.mk (below_step z13_3 hb); clear hb hbox hg; obtain ⟨hcz28_0, hcz28_1, hcz28_2, hfz28_0, hfz28_1, hfz28_2⟩ := bc3 BK288.out))
          have n0_ : Aside0 ((((w27.setCell ⟨gb288, 0, none⟩ (.string ((rd_T84 l0 x7_1).f0))).setCell ⟨gb288, 1, none⟩ (.int .i64 ((rd_T84 l0 x7_1).f1))).setCell ⟨gb288, 2, none⟩ (.int .i64 ((rd_T84 l0 x7_1).f2))).heap[gb288]? = some (.cells #[.string ((rd_T84 l0 x7_1).f0), .int .i64 ((rd_T84 l0 x7_1).f1), .int .i64 ((rd_T84 l0 x7_1).f2)] 84 (0, 0))) := ⟨z13_1⟩
          have n1_ : Aside0 (Below w.heap.size w (((w27.setCell ⟨gb288, 0, none⟩ (.string ((rd_T84 l0 x7_1).f0))).setCell ⟨gb288, 1, none⟩ (.int .i64 ((rd_T84 l0 x7_1).f1))).setCell ⟨gb288, 2, none⟩ (.int .i64 ((rd_T84 l0 x7_1).f2)))) := ⟨z13_4⟩
          (try clear BK288)
          (try clear HB)
          generalize (((w27.setCell ⟨gb288, 0, none⟩ (.string ((rd_T84 l0 x7_1).f0))).setCell ⟨gb288, 1, none⟩ (.int .i64 ((rd_T84 l0 x7_1).f1))).setCell ⟨gb288, 2, none⟩ (.int .i64 ((rd_T84 l0 x7_1).f2))) = w29 at n0_ n1_ ⊢
          have BK288 := n0_
          have HB := n1_
          clear n0_ n1_
          replace BK288 := Aside0.mk (blk_drew BK288.out)
          replace HB := Aside0.mk (below_drew1 HB.out)
          refine start_ (n := 30) (S := fun w' => w'.cell? ⟨gb288, 0, none⟩ = some (.string ((rd_T84 l0 x7_1).f0)) ∧ w'.cell? ⟨gb288, 1, none⟩ = some (.int .i64 ((rd_T84 l0 x7_1).f1)) ∧ w'.cell? ⟨gb288, 2, none⟩ = some (.int .i64 ((rd_T84 l0 x7_1).f2))) (ds := []) mk13_0 z13_5 rfl rfl ⟨bc_ BK288 0, bc_ BK288 1, bc_ BK288 2⟩ (fun hHeld => ?_); refine with_tabW impl_talliesOk.tab4 impl_talliesOk.bits4 (fun HT_ HW_ => ?_)
          generalize w29.drew = w30 at BK288 HB hHeld ⊢
          refine p_ (i := 0) (N := some 12) mk13_1 ?_ (hv := z13_2) (ha := z13_0)
          refine t_ (i := 1) (N := some 13) mk13_2 hHeld ?_ (hv := by rintro w' ⟨s0, s1, s2⟩; go_simp; with_reducible rfl) (ha := z13_0)
          refine o_ (i := 2) (N := some 14) mk13_3 (fun K hK => ?_)
          refine goes_ Try.func107 z13_5 rfl #[.string ((rd_T84 l0 x7_1).f0)] (by rfl) rfl rfl z13_6 ?_
          with_reducible refine (impl_NameOk.calls k1 ((rd_T84 l0 x7_1).f0) true _ A5.out).mono ?_
          rintro e w' ⟨rfl, ⟨nd, rfl⟩⟩
          refine ⟨_, rfl, ?_⟩
          refine hK.out _ _ ⟨bc_ BK288 0, bc_ BK288 1, bc_ BK288 2⟩ (fun hHeld => ?_)
          clear hK K
          refine n_ ?_
          refine p_ (i := 3) (N := some 15) mk13_4 ?_ (hv := z13_2) (ha := z13_0)
          refine p_ (i := 4) (N := some 16) mk13_5 ?_ (hv := z13_2) (ha := z13_0)
          refine p_ (i := 5) (N := some 17) mk13_6 ?_ (hv := z13_2) (ha := z13_0)
          refine t_ (i := 6) (N := some 18) mk13_7 hHeld ?_ (hv := by rintro w' ⟨s0, s1, s2⟩; go_simp; with_reducible rfl) (ha := z13_0)
          refine o_ (i := 7) (N := some 19) mk13_8 (fun K hK => ?_)
          refine goes_ Try.func106 z13_5 rfl #[.int .i64 ((rd_T84 l0 x7_1).f1), .int .i64 0, .int .i64 2] (by rfl) rfl rfl z13_6 ?_
          with_reducible refine (impl_within.calls ((rd_T84 l0 x7_1).f1) 0 2 true _ A7.out).mono ?_
          rintro e w' ⟨rfl, ⟨nd, rfl⟩⟩
          refine ⟨_, rfl, ?_⟩
          refine hK.out _ _ ⟨bc_ BK288 0, bc_ BK288 1, bc_ BK288 2⟩ (fun hHeld => ?_)
          clear hK K
          refine n_ ?_
          refine p_ (i := 8) (N := some 20) mk13_9 ?_ (hv := z13_2) (ha := z13_0)
          refine p_ (i := 9) (N := some 21) mk13_10 ?_ (hv := z13_2) (ha := z13_0)
          refine p_ (i := 10) (N := some 22) mk13_11 ?_ (hv := z13_2) (ha := z13_0)
          refine p_ (i := 11) (N := some 23) mk13_12 ?_ (hv := z13_2) (ha := z13_0)
          refine t_ (i := 12) (N := some 24) mk13_13 hHeld ?_ (hv := by rintro w' ⟨s0, s1, s2⟩; go_simp; with_reducible rfl) (ha := z13_0)
          refine o_ (i := 13) (N := some 25) mk13_14 (fun K hK => ?_)
          refine goes_ Try.func106 z13_5 rfl #[.int .i64 ((rd_T84 l0 x7_1).f2), .int .i64 0, .int .i64 999999] (by rfl) rfl rfl z13_6 ?_
          with_reducible refine (impl_within.calls ((rd_T84 l0 x7_1).f2) 0 999999 true _ A9.out).mono ?_
          rintro e w' ⟨rfl, ⟨nd, rfl⟩⟩
          refine ⟨_, rfl, ?_⟩
          refine hK.out _ _ ⟨bc_ BK288 0, bc_ BK288 1, bc_ BK288 2⟩ (fun hHeld => ?_)
          clear hK K
          refine n_ ?_
          refine p_ (i := 14) (N := some 26) mk13_15 ?_ (hv := z13_2) (ha := z13_0)
          refine p_ (i := 15) (N := some 27) mk13_16 ?_ (hv := z13_2) (ha := z13_0)
          refine p_ (i := 16) (N := some 28) mk13_17 ?_ (hv := z13_2) (ha := z13_0)
          refine p_ (i := 17) (N := some 29) mk13_18 ?_ (hv := z13_2) (ha := z13_0)
          refine p_ (i := 18) (N := some 30) mk13_19 ?_ (hv := z13_2) (ha := z13_0)
          refine p_ (i := 19) (N := some 31) mk13_20 ?_ (hv := z13_2) (ha := z13_0)
          refine u_ (i := 20) (N := some 32) mk13_21 ?_ (ha := z13_0)
          refine u_ (i := 21) (N := some 33) mk13_22 ?_ (ha := z13_0)
          refine u_ (i := 22) (N := some 34) mk13_23 ?_ (ha := z13_0)
          refine u_ (i := 23) (N := some 35) mk13_24 ?_ (ha := z13_0)
          refine u_ (i := 24) (N := some 36) mk13_25 ?_ (ha := z13_0)
          refine u_ (i := 25) (N := some 37) mk13_26 ?_ (ha := z13_0)
          refine u_ (i := 26) (N := some 38) mk13_27 ?_ (ha := z13_0)
          refine u_ (i := 27) (N := some 39) mk13_28 ?_ (ha := z13_0)
          refine p_ (i := 28) (N := some 40) mk13_29 ?_ (hv := z13_2) (ha := z13_0)
          refine p_ (i := 29) (N := some 41) mk13_30 ?_ (hv := z13_2) (ha := z13_0)
          refine done_ (done_of HT_.out z13_5) ?_
          try go_wp2
          go_roundg k1
          case measure => have := HK1.out; omega
          case rel => exact ⟨(wrap64 (x7_1 + 1)), (by first | rfl | (simp; done) | (simp [*]; done)), H', ⟨by have := HK1.out; omega⟩, ⟨z13_4⟩⟩
        ·
         replace c10 := Bool.eq_false_iff.mpr c10
         subst c10
         rw [if_neg (show ¬ (false = true) by decide)] at H
         obtain rfl := Option.some.inj H
         have p287 : 0 ≤ (x7_1 : Int) := of_decide_eq_true z13_7
         have q287 : x7_1 < (l0.length : Int) := of_decide_eq_true z13_7
         obtain ⟨ad287, e287, hx287_0, hx287_1, hx287_2⟩ := at_T84 HR0.out x7_1 p287 q287
         cases e287
         replace hx287_0 := cb_ HB hx287_0
         replace hx287_1 := cb_ HB hx287_1
         replace hx287_2 := cb_ HB hx287_2
         replace p287 := eq_true p287
         replace q287 := eq_true q287
         try go_wp2_with (first | ((with_reducible refine gate_dst (N := 4) rfl ?_); refine box_event ?hg (N := 4) ?hd (cs := #[.string (⟨#[]⟩ : ByteArray), .int .i64 0, .int .i64 0]) (t := 84) ?hr ?_; (case hd => rfl); (case hg => rfl); (case hr => first | (go_simp; done) | (go_simp; rfl)); intro gb288 hg w31 hbox hb; have BK288 := Aside0.mk (hbox); have GW288 := gw_ w z13_3 hg; have GE288 := gw_ w z13_3 hg; replace HB := Aside0.mk (below_step z13_3 hb); clear hb hbox hg; obtain ⟨hcz32_0, hcz32_1, hcz32_2, hfz32_0, hfz32_1, hfz32_2⟩ := bc3 BK288.out))
         have n0_ : Aside0 ((((w31.setCell ⟨gb288, 0, none⟩ (.string ((rd_T84 l0 x7_1).f0))).setCell ⟨gb288, 1, none⟩ (.int .i64 ((rd_T84 l0 x7_1).f1))).setCell ⟨gb288, 2, none⟩ (.int .i64 ((rd_T84 l0 x7_1).f2))).heap[gb288]? = some (.cells #[.string ((rd_T84 l0 x7_1).f0), .int .i64 ((rd_T84 l0 x7_1).f1), .int .i64 ((rd_T84 l0 x7_1).f2)] 84 (0, 0))) := ⟨z13_1⟩
         have n1_ : Aside0 (Below w.heap.size w (((w31.setCell ⟨gb288, 0, none⟩ (.string ((rd_T84 l0 x7_1).f0))).setCell ⟨gb288, 1, none⟩ (.int .i64 ((rd_T84 l0 x7_1).f1))).setCell ⟨gb288, 2, none⟩ (.int .i64 ((rd_T84 l0 x7_1).f2)))) := ⟨z13_4⟩
         (try clear BK288)
         (try clear HB)
         generalize (((w31.setCell ⟨gb288, 0, none⟩ (.string ((rd_T84 l0 x7_1).f0))).setCell ⟨gb288, 1, none⟩ (.int .i64 ((rd_T84 l0 x7_1).f1))).setCell ⟨gb288, 2, none⟩ (.int .i64 ((rd_T84 l0 x7_1).f2))) = w33 at n0_ n1_ ⊢
         have BK288 := n0_
         have HB := n1_
         clear n0_ n1_
         replace BK288 := Aside0.mk (blk_drew BK288.out)
         replace HB := Aside0.mk (below_drew1 HB.out)
         refine start_ (n := 30) (S := fun w' => w'.cell? ⟨gb288, 0, none⟩ = some (.string ((rd_T84 l0 x7_1).f0)) ∧ w'.cell? ⟨gb288, 1, none⟩ = some (.int .i64 ((rd_T84 l0 x7_1).f1)) ∧ w'.cell? ⟨gb288, 2, none⟩ = some (.int .i64 ((rd_T84 l0 x7_1).f2))) (ds := []) mk13_0 z13_5 rfl rfl ⟨bc_ BK288 0, bc_ BK288 1, bc_ BK288 2⟩ (fun hHeld => ?_); refine with_tabW impl_talliesOk.tab4 impl_talliesOk.bits4 (fun HT_ HW_ => ?_)
         generalize w33.drew = w34 at BK288 HB hHeld ⊢
         refine p_ (i := 0) (N := some 12) mk13_1 ?_ (hv := z13_2) (ha := z13_0)
         refine t_ (i := 1) (N := some 13) mk13_2 hHeld ?_ (hv := by rintro w' ⟨s0, s1, s2⟩; go_simp; with_reducible rfl) (ha := z13_0)
         refine o_ (i := 2) (N := some 14) mk13_3 (fun K hK => ?_)
         refine goes_ Try.func107 z13_5 rfl #[.string ((rd_T84 l0 x7_1).f0)] (by rfl) rfl rfl z13_6 ?_
         with_reducible refine (impl_NameOk.calls k1 ((rd_T84 l0 x7_1).f0) true _ A5.out).mono ?_
         rintro e w' ⟨rfl, ⟨nd, rfl⟩⟩
         refine ⟨_, rfl, ?_⟩
         refine hK.out _ _ ⟨bc_ BK288 0, bc_ BK288 1, bc_ BK288 2⟩ (fun hHeld => ?_)
         clear hK K
         refine n_ ?_
         refine p_ (i := 3) (N := some 15) mk13_4 ?_ (hv := z13_2) (ha := z13_0)
         refine p_ (i := 4) (N := some 16) mk13_5 ?_ (hv := z13_2) (ha := z13_0)
         refine p_ (i := 5) (N := some 17) mk13_6 ?_ (hv := z13_2) (ha := z13_0)
         refine t_ (i := 6) (N := some 18) mk13_7 hHeld ?_ (hv := by rintro w' ⟨s0, s1, s2⟩; go_simp; with_reducible rfl) (ha := z13_0)
         refine o_ (i := 7) (N := some 19) mk13_8 (fun K hK => ?_)
         refine goes_ Try.func106 z13_5 rfl #[.int .i64 ((rd_T84 l0 x7_1).f1), .int .i64 0, .int .i64 2] (by rfl) rfl rfl z13_6 ?_
         with_reducible refine (impl_within.calls ((rd_T84 l0 x7_1).f1) 0 2 true _ A7.out).mono ?_
         rintro e w' ⟨rfl, ⟨nd, rfl⟩⟩
         refine ⟨_, rfl, ?_⟩
         refine hK.out _ _ ⟨bc_ BK288 0, bc_ BK288 1, bc_ BK288 2⟩ (fun hHeld => ?_)
         clear hK K
         refine n_ ?_
         refine p_ (i := 8) (N := some 20) mk13_9 ?_ (hv := z13_2) (ha := z13_0)
         refine p_ (i := 9) (N := some 21) mk13_10 ?_ (hv := z13_2) (ha := z13_0)
         refine p_ (i := 10) (N := some 22) mk13_11 ?_ (hv := z13_2) (ha := z13_0)
         refine p_ (i := 11) (N := some 23) mk13_12 ?_ (hv := z13_2) (ha := z13_0)
         refine t_ (i := 12) (N := some 24) mk13_13 hHeld ?_ (hv := by rintro w' ⟨s0, s1, s2⟩; go_simp; with_reducible rfl) (ha := z13_0)
         refine o_ (i := 13) (N := some 25) mk13_14 (fun K hK => ?_)
         refine goes_ Try.func106 z13_5 rfl #[.int .i64 ((rd_T84 l0 x7_1).f2), .int .i64 0, .int .i64 999999] (by rfl) rfl rfl z13_6 ?_
         with_reducible refine (impl_within.calls ((rd_T84 l0 x7_1).f2) 0 999999 false _ A9.out).mono ?_
         rintro e w' ⟨rfl, ⟨nd, rfl⟩⟩
         refine ⟨_, rfl, ?_⟩
         refine hK.out _ _ ⟨bc_ BK288 0, bc_ BK288 1, bc_ BK288 2⟩ (fun hHeld => ?_)
         clear hK K
         refine n_ ?_
         refine p_ (i := 14) (N := some 26) mk13_15 ?_ (hv := z13_2) (ha := z13_0)
         refine p_ (i := 15) (N := some 27) mk13_16 ?_ (hv := z13_2) (ha := z13_0)
         refine p_ (i := 16) (N := some 28) mk13_17 ?_ (hv := z13_2) (ha := z13_0)
         refine u_ (i := 17) (N := some 29) mk13_18 ?_ (ha := z13_0)
         refine u_ (i := 18) (N := some 30) mk13_19 ?_ (ha := z13_0)
         refine u_ (i := 19) (N := some 31) mk13_20 ?_ (ha := z13_0)
         refine u_ (i := 20) (N := some 32) mk13_21 ?_ (ha := z13_0)
         refine u_ (i := 21) (N := some 33) mk13_22 ?_ (ha := z13_0)
         refine u_ (i := 22) (N := some 34) mk13_23 ?_ (ha := z13_0)
         refine u_ (i := 23) (N := some 35) mk13_24 ?_ (ha := z13_0)
         refine u_ (i := 24) (N := some 36) mk13_25 ?_ (ha := z13_0)
         refine u_ (i := 25) (N := some 37) mk13_26 ?_ (ha := z13_0)
         refine u_ (i := 26) (N := some 38) mk13_27 ?_ (ha := z13_0)
         refine u_ (i := 27) (N := some 39) mk13_28 ?_ (ha := z13_0)
         refine u_ (i := 28) (N := some 40) mk13_29 ?_ (ha := z13_0)
         refine p_ (i := 29) (N := some 41) mk13_30 ?_ (hv := z13_2) (ha := z13_0)
         refine done_ (done_of HT_.out z13_5) ?_
         try go_wp2
         go_ret
         exact ⟨z13_8, z13_4⟩
       ·
        replace c8 := Bool.eq_false_iff.mpr c8
        subst c8
        rw [if_neg (show ¬ (false = true) by decide)] at H
        obtain rfl := Option.some.inj H
        have p287 : 0 ≤ (x7_1 : Int) := of_decide_eq_true z13_7
        have q287 : x7_1 < (l0.length : Int) := of_decide_eq_true z13_7
        obtain ⟨ad287, e287, hx287_0, hx287_1, hx287_2⟩ := at_T84 HR0.out x7_1 p287 q287
        cases e287
        replace hx287_0 := cb_ HB hx287_0
        replace hx287_1 := cb_ HB hx287_1
        replace hx287_2 := cb_ HB hx287_2
        replace p287 := eq_true p287
        replace q287 := eq_true q287
        try go_wp2_with (first | ((with_reducible refine gate_dst (N := 4) rfl ?_); refine box_event ?hg (N := 4) ?hd (cs := #[.string (⟨#[]⟩ : ByteArray), .int .i64 0, .int .i64 0]) (t := 84) ?hr ?_; (case hd => rfl); (case hg => rfl); (case hr => first | (go_simp; done) | (go_simp; rfl)); intro gb288 hg w35 hbox hb; have BK288 := Aside0.mk (hbox); have GW288 := gw_ w z13_3 hg; have GE288 := gw_ w z13_3 hg; replace HB := Aside0.mk (below_step z13_3 hb); clear hb hbox hg; obtain ⟨hcz36_0, hcz36_1, hcz36_2, hfz36_0, hfz36_1, hfz36_2⟩ := bc3 BK288.out))
        have n0_ : Aside0 ((((w35.setCell ⟨gb288, 0, none⟩ (.string ((rd_T84 l0 x7_1).f0))).setCell ⟨gb288, 1, none⟩ (.int .i64 ((rd_T84 l0 x7_1).f1))).setCell ⟨gb288, 2, none⟩ (.int .i64 ((rd_T84 l0 x7_1).f2))).heap[gb288]? = some (.cells #[.string ((rd_T84 l0 x7_1).f0), .int .i64 ((rd_T84 l0 x7_1).f1), .int .i64 ((rd_T84 l0 x7_1).f2)] 84 (0, 0))) := ⟨z13_1⟩
        have n1_ : Aside0 (Below w.heap.size w (((w35.setCell ⟨gb288, 0, none⟩ (.string ((rd_T84 l0 x7_1).f0))).setCell ⟨gb288, 1, none⟩ (.int .i64 ((rd_T84 l0 x7_1).f1))).setCell ⟨gb288, 2, none⟩ (.int .i64 ((rd_T84 l0 x7_1).f2)))) := ⟨z13_4⟩
        (try clear BK288)
        (try clear HB)
        generalize (((w35.setCell ⟨gb288, 0, none⟩ (.string ((rd_T84 l0 x7_1).f0))).setCell ⟨gb288, 1, none⟩ (.int .i64 ((rd_T84 l0 x7_1).f1))).setCell ⟨gb288, 2, none⟩ (.int .i64 ((rd_T84 l0 x7_1).f2))) = w37 at n0_ n1_ ⊢
        have BK288 := n0_
        have HB := n1_
        clear n0_ n1_
        replace BK288 := Aside0.mk (blk_drew BK288.out)
        replace HB := Aside0.mk (below_drew1 HB.out)
        refine start_ (n := 30) (S := fun w' => w'.cell? ⟨gb288, 0, none⟩ = some (.string ((rd_T84 l0 x7_1).f0)) ∧ w'.cell? ⟨gb288, 1, none⟩ = some (.int .i64 ((rd_T84 l0 x7_1).f1)) ∧ w'.cell? ⟨gb288, 2, none⟩ = some (.int .i64 ((rd_T84 l0 x7_1).f2))) (ds := []) mk13_0 z13_5 rfl rfl ⟨bc_ BK288 0, bc_ BK288 1, bc_ BK288 2⟩ (fun hHeld => ?_); refine with_tabW impl_talliesOk.tab4 impl_talliesOk.bits4 (fun HT_ HW_ => ?_)
        generalize w37.drew = w38 at BK288 HB hHeld ⊢
        refine p_ (i := 0) (N := some 12) mk13_1 ?_ (hv := z13_2) (ha := z13_0)
        refine t_ (i := 1) (N := some 13) mk13_2 hHeld ?_ (hv := by rintro w' ⟨s0, s1, s2⟩; go_simp; with_reducible rfl) (ha := z13_0)
        refine o_ (i := 2) (N := some 14) mk13_3 (fun K hK => ?_)
        refine goes_ Try.func107 z13_5 rfl #[.string ((rd_T84 l0 x7_1).f0)] (by rfl) rfl rfl z13_6 ?_
        with_reducible refine (impl_NameOk.calls k1 ((rd_T84 l0 x7_1).f0) true _ A5.out).mono ?_
        rintro e w' ⟨rfl, ⟨nd, rfl⟩⟩
        refine ⟨_, rfl, ?_⟩
        refine hK.out _ _ ⟨bc_ BK288 0, bc_ BK288 1, bc_ BK288 2⟩ (fun hHeld => ?_)
        clear hK K
        refine n_ ?_
        refine p_ (i := 3) (N := some 15) mk13_4 ?_ (hv := z13_2) (ha := z13_0)
        refine p_ (i := 4) (N := some 16) mk13_5 ?_ (hv := z13_2) (ha := z13_0)
        refine p_ (i := 5) (N := some 17) mk13_6 ?_ (hv := z13_2) (ha := z13_0)
        refine t_ (i := 6) (N := some 18) mk13_7 hHeld ?_ (hv := by rintro w' ⟨s0, s1, s2⟩; go_simp; with_reducible rfl) (ha := z13_0)
        refine o_ (i := 7) (N := some 19) mk13_8 (fun K hK => ?_)
        refine goes_ Try.func106 z13_5 rfl #[.int .i64 ((rd_T84 l0 x7_1).f1), .int .i64 0, .int .i64 2] (by rfl) rfl rfl z13_6 ?_
        with_reducible refine (impl_within.calls ((rd_T84 l0 x7_1).f1) 0 2 false _ A7.out).mono ?_
        rintro e w' ⟨rfl, ⟨nd, rfl⟩⟩
        refine ⟨_, rfl, ?_⟩
        refine hK.out _ _ ⟨bc_ BK288 0, bc_ BK288 1, bc_ BK288 2⟩ (fun hHeld => ?_)
        clear hK K
        refine n_ ?_
        refine p_ (i := 8) (N := some 20) mk13_9 ?_ (hv := z13_2) (ha := z13_0)
        refine p_ (i := 9) (N := some 21) mk13_10 ?_ (hv := z13_2) (ha := z13_0)
        refine p_ (i := 10) (N := some 22) mk13_11 ?_ (hv := z13_2) (ha := z13_0)
        refine u_ (i := 11) (N := some 23) mk13_12 ?_ (ha := z13_0)
        refine u_ (i := 12) (N := some 24) mk13_13 ?_ (ha := z13_0)
        refine u_ (i := 13) (N := some 25) mk13_14 ?_ (ha := z13_0)
        refine u_ (i := 14) (N := some 26) mk13_15 ?_ (ha := z13_0)
        refine p_ (i := 15) (N := some 27) mk13_16 ?_ (hv := z13_2) (ha := z13_0)
        refine p_ (i := 16) (N := some 28) mk13_17 ?_ (hv := z13_2) (ha := z13_0)
        refine u_ (i := 17) (N := some 29) mk13_18 ?_ (ha := z13_0)
        refine u_ (i := 18) (N := some 30) mk13_19 ?_ (ha := z13_0)
        refine u_ (i := 19) (N := some 31) mk13_20 ?_ (ha := z13_0)
        refine u_ (i := 20) (N := some 32) mk13_21 ?_ (ha := z13_0)
        refine u_ (i := 21) (N := some 33) mk13_22 ?_ (ha := z13_0)
        refine u_ (i := 22) (N := some 34) mk13_23 ?_ (ha := z13_0)
        refine u_ (i := 23) (N := some 35) mk13_24 ?_ (ha := z13_0)
        refine u_ (i := 24) (N := some 36) mk13_25 ?_ (ha := z13_0)
        refine u_ (i := 25) (N := some 37) mk13_26 ?_ (ha := z13_0)
        refine u_ (i := 26) (N := some 38) mk13_27 ?_ (ha := z13_0)
        refine u_ (i := 27) (N := some 39) mk13_28 ?_ (ha := z13_0)
        refine u_ (i := 28) (N := some 40) mk13_29 ?_ (ha := z13_0)
        refine p_ (i := 29) (N := some 41) mk13_30 ?_ (hv := z13_2) (ha := z13_0)
        refine done_ (done_of HT_.out z13_5) ?_
        try go_wp2
        go_ret
        exact ⟨z13_8, z13_4⟩
      ·
       replace c6 := Bool.eq_false_iff.mpr c6
       subst c6
       rw [if_neg (show ¬ (false = true) by decide)] at H
       obtain rfl := Option.some.inj H
       have p287 : 0 ≤ (x7_1 : Int) := of_decide_eq_true z13_7
       have q287 : x7_1 < (l0.length : Int) := of_decide_eq_true z13_7
       obtain ⟨ad287, e287, hx287_0, hx287_1, hx287_2⟩ := at_T84 HR0.out x7_1 p287 q287
       cases e287
       replace hx287_0 := cb_ HB hx287_0
       replace hx287_1 := cb_ HB hx287_1
       replace hx287_2 := cb_ HB hx287_2
       replace p287 := eq_true p287
       replace q287 := eq_true q287
       try go_wp2_with (first | ((with_reducible refine gate_dst (N := 4) rfl ?_); refine box_event ?hg (N := 4) ?hd (cs := #[.string (⟨#[]⟩ : ByteArray), .int .i64 0, .int .i64 0]) (t := 84) ?hr ?_; (case hd => rfl); (case hg => rfl); (case hr => first | (go_simp; done) | (go_simp; rfl)); intro gb288 hg w39 hbox hb; have BK288 := Aside0.mk (hbox); have GW288 := gw_ w z13_3 hg; have GE288 := gw_ w z13_3 hg; replace HB := Aside0.mk (below_step z13_3 hb); clear hb hbox hg; obtain ⟨hcz40_0, hcz40_1, hcz40_2, hfz40_0, hfz40_1, hfz40_2⟩ := bc3 BK288.out))
       have n0_ : Aside0 ((((w39.setCell ⟨gb288, 0, none⟩ (.string ((rd_T84 l0 x7_1).f0))).setCell ⟨gb288, 1, none⟩ (.int .i64 ((rd_T84 l0 x7_1).f1))).setCell ⟨gb288, 2, none⟩ (.int .i64 ((rd_T84 l0 x7_1).f2))).heap[gb288]? = some (.cells #[.string ((rd_T84 l0 x7_1).f0), .int .i64 ((rd_T84 l0 x7_1).f1), .int .i64 ((rd_T84 l0 x7_1).f2)] 84 (0, 0))) := ⟨z13_1⟩
       have n1_ : Aside0 (Below w.heap.size w (((w39.setCell ⟨gb288, 0, none⟩ (.string ((rd_T84 l0 x7_1).f0))).setCell ⟨gb288, 1, none⟩ (.int .i64 ((rd_T84 l0 x7_1).f1))).setCell ⟨gb288, 2, none⟩ (.int .i64 ((rd_T84 l0 x7_1).f2)))) := ⟨z13_4⟩
       (try clear BK288)
       (try clear HB)
       generalize (((w39.setCell ⟨gb288, 0, none⟩ (.string ((rd_T84 l0 x7_1).f0))).setCell ⟨gb288, 1, none⟩ (.int .i64 ((rd_T84 l0 x7_1).f1))).setCell ⟨gb288, 2, none⟩ (.int .i64 ((rd_T84 l0 x7_1).f2))) = w41 at n0_ n1_ ⊢
       have BK288 := n0_
       have HB := n1_
       clear n0_ n1_
       replace BK288 := Aside0.mk (blk_drew BK288.out)
       replace HB := Aside0.mk (below_drew1 HB.out)
       refine start_ (n := 30) (S := fun w' => w'.cell? ⟨gb288, 0, none⟩ = some (.string ((rd_T84 l0 x7_1).f0)) ∧ w'.cell? ⟨gb288, 1, none⟩ = some (.int .i64 ((rd_T84 l0 x7_1).f1)) ∧ w'.cell? ⟨gb288, 2, none⟩ = some (.int .i64 ((rd_T84 l0 x7_1).f2))) (ds := []) mk13_0 z13_5 rfl rfl ⟨bc_ BK288 0, bc_ BK288 1, bc_ BK288 2⟩ (fun hHeld => ?_); refine with_tabW impl_talliesOk.tab4 impl_talliesOk.bits4 (fun HT_ HW_ => ?_)
       generalize w41.drew = w42 at BK288 HB hHeld ⊢
       refine p_ (i := 0) (N := some 12) mk13_1 ?_ (hv := z13_2) (ha := z13_0)
       refine t_ (i := 1) (N := some 13) mk13_2 hHeld ?_ (hv := by rintro w' ⟨s0, s1, s2⟩; go_simp; with_reducible rfl) (ha := z13_0)
       refine o_ (i := 2) (N := some 14) mk13_3 (fun K hK => ?_)
       refine goes_ Try.func107 z13_5 rfl #[.string ((rd_T84 l0 x7_1).f0)] (by rfl) rfl rfl z13_6 ?_
       with_reducible refine (impl_NameOk.calls k1 ((rd_T84 l0 x7_1).f0) false _ A5.out).mono ?_
       rintro e w' ⟨rfl, ⟨nd, rfl⟩⟩
       refine ⟨_, rfl, ?_⟩
       refine hK.out _ _ ⟨bc_ BK288 0, bc_ BK288 1, bc_ BK288 2⟩ (fun hHeld => ?_)
       clear hK K
       refine n_ ?_
       refine p_ (i := 3) (N := some 15) mk13_4 ?_ (hv := z13_2) (ha := z13_0)
       refine p_ (i := 4) (N := some 16) mk13_5 ?_ (hv := z13_2) (ha := z13_0)
       refine u_ (i := 5) (N := some 17) mk13_6 ?_ (ha := z13_0)
       refine u_ (i := 6) (N := some 18) mk13_7 ?_ (ha := z13_0)
       refine u_ (i := 7) (N := some 19) mk13_8 ?_ (ha := z13_0)
       refine u_ (i := 8) (N := some 20) mk13_9 ?_ (ha := z13_0)
       refine p_ (i := 9) (N := some 21) mk13_10 ?_ (hv := z13_2) (ha := z13_0)
       refine p_ (i := 10) (N := some 22) mk13_11 ?_ (hv := z13_2) (ha := z13_0)
       refine u_ (i := 11) (N := some 23) mk13_12 ?_ (ha := z13_0)
       refine u_ (i := 12) (N := some 24) mk13_13 ?_ (ha := z13_0)
       refine u_ (i := 13) (N := some 25) mk13_14 ?_ (ha := z13_0)
       refine u_ (i := 14) (N := some 26) mk13_15 ?_ (ha := z13_0)
       refine p_ (i := 15) (N := some 27) mk13_16 ?_ (hv := z13_2) (ha := z13_0)
       refine p_ (i := 16) (N := some 28) mk13_17 ?_ (hv := z13_2) (ha := z13_0)
       refine u_ (i := 17) (N := some 29) mk13_18 ?_ (ha := z13_0)
       refine u_ (i := 18) (N := some 30) mk13_19 ?_ (ha := z13_0)
       refine u_ (i := 19) (N := some 31) mk13_20 ?_ (ha := z13_0)
       refine u_ (i := 20) (N := some 32) mk13_21 ?_ (ha := z13_0)
       refine u_ (i := 21) (N := some 33) mk13_22 ?_ (ha := z13_0)
       refine u_ (i := 22) (N := some 34) mk13_23 ?_ (ha := z13_0)
       refine u_ (i := 23) (N := some 35) mk13_24 ?_ (ha := z13_0)
       refine u_ (i := 24) (N := some 36) mk13_25 ?_ (ha := z13_0)
       refine u_ (i := 25) (N := some 37) mk13_26 ?_ (ha := z13_0)
       refine u_ (i := 26) (N := some 38) mk13_27 ?_ (ha := z13_0)
       refine u_ (i := 27) (N := some 39) mk13_28 ?_ (ha := z13_0)
       refine u_ (i := 28) (N := some 40) mk13_29 ?_ (ha := z13_0)
       refine p_ (i := 29) (N := some 41) mk13_30 ?_ (hv := z13_2) (ha := z13_0)
       refine done_ (done_of HT_.out z13_5) ?_
       try go_wp2
       go_ret
       exact ⟨z13_8, z13_4⟩
     ·
      rw [if_neg c4] at H
      exact absurd H (by simp)
    ·
     rw [if_neg c3] at H
     exact absurd H (by simp)
   ·
    rw [if_neg c2] at H
    have c2b0 : decide (x7_1 < (l0.length : Int)) = false := decide_eq_false c2
    clear c2
    obtain rfl := Option.some.inj H
    go_wp2
    go_ret
    exact ⟨z13_8, z13_3⟩
end Go.Proofs.Ytbanogkoaplcdaa.QSOk
