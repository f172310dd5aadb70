/- Parts of the proof of FnExactDoAll, one behind the other. No condition. -/
import Derived.Test.YtbanogkoaplcdaaGreatVFnExactDoAllM7
namespace Go.Proofs.YtbanogkoaplcdaaGreat.QDa
open Go.RowKit Go.Proofs.YtbanogkoaplcdaaGreat.Auto Go.Proofs.YtbanogkoaplcdaaGreat.Lock Go.Proofs.YtbanogkoaplcdaaGreat.Short Go.Proofs.YtbanogkoaplcdaaGreatW.PrintWords Go.Proofs.YtbanogkoaplcdaaGreatW.PrintLast Go.Proofs.YtbanogkoaplcdaaGreatW.PrintMore
attribute [local go_sem] max2_int min2_int max_two min_two max_three min_three max_four min_four   -- for this text's walks alone
set_option linter.unusedVariables false
set_option linter.unusedSimpArgs false
theorem z30_31 {P : Prop} (h : P := by repeat (first | exact Drawn0.refl _ | apply Drawn0.step)) : P := h
theorem z30_27 {P : Prop} (h : P := by repeat (first | (with_reducible first | exact HB.out | apply below_alloc | apply pw_below_drewN | apply below_drew1 | refine below_set ?_ GE807.out) | exact HB.out)) : P := h
theorem z30_25 {P : Prop} (h : P := by first | rfl | (simp; done) | (simp [*]; done)) : P := h
theorem z30_24 {P : Prop} (h : P := by repeat (first | (with_reducible first | exact HB.out | apply below_alloc | apply pw_below_drewN | apply below_drew1 | refine below_set ?_ GE852.out | refine below_set ?_ GE853.out) | exact HB.out)) : P := h
theorem z30_19 {P : Prop} (h : P := by first | (with_reducible assumption) | assumption) : P := h
theorem z30_17 {P : Prop} (h : P := by (with_reducible repeat (first | refine blk_drewN ?_ _ | refine blk_drew ?_ | refine blk_alloc ?_ _)); exact BK852.out) : P := h
theorem z30_16 {P : Prop} (h : P := by first | rfl | (simp [errW_none, errW_some] <;> rfl) | (simp [*, errW_none, errW_some] <;> rfl)) : P := h
theorem z30_13 {P : Prop} (h : P := by repeat (first | (with_reducible first | exact HB.out | apply below_alloc | apply pw_below_drewN | apply below_drew1 | refine below_set ?_ GE852.out) | exact HB.out)) : P := h
theorem z30_1 {P : Prop} (h : P := by repeat (first | (with_reducible first | exact HB.out | apply below_alloc | apply pw_below_drewN | apply below_drew1) | exact HB.out)) : P := h
def impl_tooMany.f (l0_0 : List Int) (l0_1 : List (S90)) (l0_2 : List (S93)) (l0_3 : List (S96)) : Option (Bool) := if (l0_1.length : Int) > 120 then (some true) else (if (l0_2.length : Int) > 120 then (some true) else (some (decide ((l0_3.length : Int) > 120))))
set_option maxHeartbeats 8000000 in
set_option maxRecDepth 100000 in
theorem impl_tooMany.calls (A0_0 : Option Addr) (c0_0 : Nat) (l0_0 : List Int) (A0_1 : Option Addr) (c0_1 : Nat) (l0_1 : List (S90)) (A0_2 : Option Addr) (c0_2 : Nat) (l0_2 : List (S93)) (A0_3 : Option Addr) (c0_3 : Nat) (l0_3 : List (S96)) (r : Bool) (w : World) (hr0_0 : Kd.C (Kd.int .i64) w A0_0 l0_0.length l0_0) (hc0_0 : l0_0.length ≤ c0_0) (hr0_1 : Kd.C k90 w A0_1 l0_1.length l0_1) (hc0_1 : l0_1.length ≤ c0_1) (hr0_2 : Kd.C k93 w A0_2 l0_2.length l0_2) (hc0_2 : l0_2.length ≤ c0_2) (hr0_3 : Kd.C k96 w A0_3 l0_3.length l0_3) (hc0_3 : l0_3.length ≤ c0_3) (h : impl_tooMany.f l0_0 l0_1 l0_2 l0_3 = some r) :
  Calls Tryz.prog 66 #[.agg #[.slice A0_0 l0_0.length c0_0, .slice A0_1 l0_1.length c0_1, .slice A0_2 l0_2.length c0_2, .slice A0_3 l0_3.length c0_3]] w fun e w' => e = .returned (.bool r) ∧ Below w.heap.size w w' := by
 have hu35 := Tryz.underlying35
 have HR0_0 := Aside0.mk hr0_0
 have HC0_0 := Aside0.mk hc0_0
 clear hr0_0 hc0_0
 have HR0_1 := Aside0.mk hr0_1
 have HC0_1 := Aside0.mk hc0_1
 clear hr0_1 hc0_1
 have HR0_2 := Aside0.mk hr0_2
 have HC0_2 := Aside0.mk hc0_2
 clear hr0_2 hc0_2
 have HR0_3 := Aside0.mk hr0_3
 have HC0_3 := Aside0.mk hc0_3
 clear hr0_3 hc0_3
 have HB := Aside0.mk (Below.refl w.heap.size w)
 have H : (if (l0_1.length : Int) > 120 then (some true) else (if (l0_2.length : Int) > 120 then (some true) else (some (decide ((l0_3.length : Int) > 120))))) = some r := h
 clear h
 by_cases c2 : (l0_1.length : Int) > 120
 ·
  rw [if_pos c2] at H
  have c2b0 : decide (120 < (l0_1.length : Int)) = true := decide_eq_true c2
  have c2b1 : decide (120 < l0_1.length) = true := decide_eq_true (by omega)
  clear c2
  obtain rfl := Option.some.inj H
  go_enter Tryz.func66, Tryz.ntmps66
  go_wp2_with (first | ((with_reducible refine gate_dst (N := 1) rfl ?_); (try (refine gate_guard (by rfl) ?_; dsimp only)); refine box_event ?hg (N := 1) ?hd (cs := #[.slice A0_0 l0_0.length c0_0, .slice A0_1 l0_1.length c0_1, .slice A0_2 l0_2.length c0_2, .slice A0_3 l0_3.length c0_3]) (t := 35) ?hr ?_; (case hd => rfl); (case hg => rfl); (case hr => first | (go_simp; done) | (go_simp; rfl)); intro gb807 hg w3 hbox hb; have BK807 := Aside0.mk (hbox); have GW807 := gw_ w z30_1 hg; have GE807 := gw_ w z30_1 hg; replace HB := Aside0.mk (below_step z30_1 hb); clear hb hbox hg; have hcz4 := bc4 BK807.out))
  go_ret
  exact ⟨z30_16, z30_27⟩
 rw [if_neg c2] at H
 have c2b0 : decide (120 < (l0_1.length : Int)) = false := decide_eq_false c2
 have c2b1 : decide (120 < l0_1.length) = false := decide_eq_false (by omega)
 clear c2
 by_cases c5 : (l0_2.length : Int) > 120
 ·
  rw [if_pos c5] at H
  have c5b0 : decide (120 < (l0_2.length : Int)) = true := decide_eq_true c5
  have c5b1 : decide (120 < l0_2.length) = true := decide_eq_true (by omega)
  clear c5
  obtain rfl := Option.some.inj H
  go_enter Tryz.func66, Tryz.ntmps66
  go_wp2_with (first | ((with_reducible refine gate_dst (N := 1) rfl ?_); (try (refine gate_guard (by rfl) ?_; dsimp only)); refine box_event ?hg (N := 1) ?hd (cs := #[.slice A0_0 l0_0.length c0_0, .slice A0_1 l0_1.length c0_1, .slice A0_2 l0_2.length c0_2, .slice A0_3 l0_3.length c0_3]) (t := 35) ?hr ?_; (case hd => rfl); (case hg => rfl); (case hr => first | (go_simp; done) | (go_simp; rfl)); intro gb807 hg w6 hbox hb; have BK807 := Aside0.mk (hbox); have GW807 := gw_ w z30_1 hg; have GE807 := gw_ w z30_1 hg; replace HB := Aside0.mk (below_step z30_1 hb); clear hb hbox hg; have hcz7 := bc4 BK807.out))
  go_ret
  exact ⟨z30_16, z30_27⟩
 rw [if_neg c5] at H
 have c5b0 : decide (120 < (l0_2.length : Int)) = false := decide_eq_false c5
 have c5b1 : decide (120 < l0_2.length) = false := decide_eq_false (by omega)
 clear c5
 obtain rfl := Option.some.inj H
 go_enter Tryz.func66, Tryz.ntmps66
 go_wp2_with (first | ((with_reducible refine gate_dst (N := 1) rfl ?_); (try (refine gate_guard (by rfl) ?_; dsimp only)); refine box_event ?hg (N := 1) ?hd (cs := #[.slice A0_0 l0_0.length c0_0, .slice A0_1 l0_1.length c0_1, .slice A0_2 l0_2.length c0_2, .slice A0_3 l0_3.length c0_3]) (t := 35) ?hr ?_; (case hd => rfl); (case hg => rfl); (case hr => first | (go_simp; done) | (go_simp; rfl)); intro gb807 hg w8 hbox hb; have BK807 := Aside0.mk (hbox); have GW807 := gw_ w z30_1 hg; have GE807 := gw_ w z30_1 hg; replace HB := Aside0.mk (below_step z30_1 hb); clear hb hbox hg; have hcz9 := bc4 BK807.out))
 go_ret
 exact ⟨z30_16, z30_27⟩
def laws_eqIntS.l0 : Nat → List Int → List Int → Int → Option (Bool)
  | 0, _, _, _ => none
  | k + 1, x0, x1, x5 => if x5 < (x0.length : Int) then (if 0 ≤ x5 then (if x5 < (x1.length : Int) then (if (rd x0 x5) = (rd x1 x5) then (laws_eqIntS.l0 k x0 x1 (wrap64 (x5 + 1))) else (some false)) else (none)) else (none)) else (some true)
def laws_eqIntS.f (k : Nat) (l0 : List Int) (l1 : List Int) : Option (Bool) := if (l0.length : Int) = (l1.length : Int) then (laws_eqIntS.l0 k l0 l1 0) else (some false)
set_option maxHeartbeats 8000000 in
set_option maxRecDepth 100000 in
theorem laws_eqIntS.calls (k : Nat) (A0 : Option Addr) (c0 : Nat) (l0 : List Int) (A1 : Option Addr) (c1 : Nat) (l1 : List Int) (r : Bool) (w : World) (hr0 : Kd.C (Kd.int .i64) w A0 l0.length l0) (hc0 : l0.length ≤ c0) (hr1 : Kd.C (Kd.int .i64) w A1 l1.length l1) (hc1 : l1.length ≤ c1) (h : laws_eqIntS.f k l0 l1 = some r) :
  Calls Tryz.prog 11 #[.slice A0 l0.length c0, .slice A1 l1.length c1] w fun e w' => e = .returned (.bool r) ∧ Drawn0 w w' := by
 have HR0 := Aside0.mk hr0
 have HC0 := Aside0.mk hc0
 clear hr0 hc0
 have HR1 := Aside0.mk hr1
 have HC1 := Aside0.mk hc1
 clear hr1 hc1
 have H := h
 unfold laws_eqIntS.f at H
 clear h
 by_cases c3 : (l0.length : Int) = (l1.length : Int)
 rotate_left
 ·
  rw [if_neg c3] at H
  have c3b0 : ((l0.length : Int) == (l1.length : Int)) = false := beq_eq_false_iff_ne.mpr c3
  have c3b1 : ((l0.length : Int) != (l1.length : Int)) = true := bne_iff_ne.mpr c3
  have c3b2 : (l0.length == l1.length) = false := by first | simpa using c3 | (simp at c3 ⊢; omega)
  obtain rfl := Option.some.inj H
  go_enter Tryz.func11, Tryz.ntmps11
  go_wp2
  repeat (go_quiet (fail); try go_wp2)
  go_ret
  exact ⟨z30_25, z30_31⟩
 rw [if_pos c3] at H
 have c3b0 : ((l0.length : Int) == (l1.length : Int)) = true := beq_iff_eq.mpr c3
 have c3b1 : ((l0.length : Int) != (l1.length : Int)) = false := bne_eq_false_iff_eq.mpr c3
 have c3b2 : (l0.length == l1.length) = true := by first | simpa using c3 | (simp at c3 ⊢; omega)
 clear c3
 have H' := Aside0.mk H
 clear H
 go_enter Tryz.func11, Tryz.ntmps11
 go_wp2
 repeat (go_quiet (fail); try go_wp2)
 go_loopg [5] k (fun kq v5 w' => ∃ (x5_1 : Int), v5 = .int .i64 x5_1 ∧ Aside0 (laws_eqIntS.l0 kq l0 l1 x5_1 = some r) ∧ Aside0 (kq ≤ k) ∧ Drawn0 w w')
 case atStart => exact ⟨(0), z30_25, H', ⟨Nat.le_refl _⟩, z30_31⟩
 case round =>
  clear H'
  try clear c1
  try clear p2
  try clear c3
  try clear c3b0
  try clear c3b1
  try clear c3b2
  obtain ⟨x5_1, rfl, HA, HK1, ⟨m1, rfl⟩⟩ := hrel
  cases gk with
  | zero => exact absurd HA.out (by simp [laws_eqIntS.l0])
  | succ k1 =>
   have H := HA.out
   clear HA
   simp only [laws_eqIntS.l0] at H
   by_cases c4 : x5_1 < (l0.length : Int)
   rotate_left
   ·
    rw [if_neg c4] at H
    have c4b0 : decide (x5_1 < (l0.length : Int)) = false := decide_eq_false c4
    clear c4
    obtain rfl := Option.some.inj H
    go_wp2
    repeat (go_quiet (fail); try go_wp2)
    go_ret
    exact ⟨z30_25, z30_31⟩
   rw [if_pos c4] at H
   have c4b0 : decide (x5_1 < (l0.length : Int)) = true := decide_eq_true c4
   clear c4
   by_cases c5 : 0 ≤ x5_1
   rotate_left
   ·
    rw [if_neg c5] at H
    exact absurd H (by simp)
   rw [if_pos c5] at H
   have c5b0 : decide (0 ≤ x5_1) = true := decide_eq_true c5
   clear c5
   by_cases c6 : x5_1 < (l1.length : Int)
   rotate_left
   ·
    rw [if_neg c6] at H
    exact absurd H (by simp)
   rw [if_pos c6] at H
   have c6b0 : decide (x5_1 < (l1.length : Int)) = true := decide_eq_true c6
   clear c6
   by_cases c7 : (rd l0 x5_1) = (rd l1 x5_1)
   rotate_left
   ·
    rw [if_neg c7] at H
    have c7b0 : ((rd l0 x5_1) == (rd l1 x5_1)) = false := beq_eq_false_iff_ne.mpr c7
    have c7b1 : ((rd l0 x5_1) != (rd l1 x5_1)) = true := bne_iff_ne.mpr c7
    obtain rfl := Option.some.inj H
    have p845 : 0 ≤ (x5_1 : Int) := of_decide_eq_true z30_19
    have q845 : x5_1 < (l0.length : Int) := of_decide_eq_true z30_19
    obtain ⟨ad845, e845, hx845_0⟩ := Kd.at_int HR0.out x5_1 p845 q845
    cases e845
    replace p845 := eq_true p845
    replace q845 := eq_true q845
    have p846 : 0 ≤ (x5_1 : Int) := of_decide_eq_true z30_19
    have q846 : x5_1 < (l1.length : Int) := of_decide_eq_true z30_19
    obtain ⟨ad846, e846, hx846_0⟩ := Kd.at_int HR1.out x5_1 p846 q846
    cases e846
    replace p846 := eq_true p846
    replace q846 := eq_true q846
    go_wp2
    repeat (go_quiet (fail); try go_wp2)
    go_ret
    exact ⟨z30_25, z30_31⟩
   rw [if_pos c7] at H
   have c7b0 : ((rd l0 x5_1) == (rd l1 x5_1)) = true := beq_iff_eq.mpr c7
   have c7b1 : ((rd l0 x5_1) != (rd l1 x5_1)) = false := bne_eq_false_iff_eq.mpr c7
   clear c7
   have H' := Aside0.mk H
   clear H
   have p845 : 0 ≤ (x5_1 : Int) := of_decide_eq_true z30_19
   have q845 : x5_1 < (l0.length : Int) := of_decide_eq_true z30_19
   obtain ⟨ad845, e845, hx845_0⟩ := Kd.at_int HR0.out x5_1 p845 q845
   cases e845
   replace p845 := eq_true p845
   replace q845 := eq_true q845
   have p846 : 0 ≤ (x5_1 : Int) := of_decide_eq_true z30_19
   have q846 : x5_1 < (l1.length : Int) := of_decide_eq_true z30_19
   obtain ⟨ad846, e846, hx846_0⟩ := Kd.at_int HR1.out x5_1 p846 q846
   cases e846
   replace p846 := eq_true p846
   replace q846 := eq_true q846
   go_wp2
   repeat (go_quiet (fail); try go_wp2)
   go_roundg k1
   case measure => have := HK1.out; omega
   case rel => exact ⟨(wrap64 (x5_1 + 1)), z30_25, H', ⟨by have := HK1.out; omega⟩, z30_31⟩
def laws_eqTally.f (a0_0 : ByteArray) (a0_1 : Int) (a0_2 : Int) (a1_0 : ByteArray) (a1_1 : Int) (a1_2 : Int) : Option (Bool) := if a0_0.toList = a1_0.toList then (if a0_1 = a1_1 then (if a0_2 = a1_2 then (some true) else (some false)) else (some false)) else (some false)
set_option maxHeartbeats 8000000 in
set_option maxRecDepth 100000 in
theorem laws_eqTally.calls (a0_0 : ByteArray) (a0_1 : Int) (a0_2 : Int) (a1_0 : ByteArray) (a1_1 : Int) (a1_2 : Int) (r : Bool) (w : World) (h : laws_eqTally.f a0_0 a0_1 a0_2 a1_0 a1_1 a1_2 = some r) :
  Calls Tryz.prog 67 #[.agg #[.string a0_0, .int .i64 a0_1, .int .i64 a0_2], .agg #[.string a1_0, .int .i64 a1_1, .int .i64 a1_2]] w fun e w' => e = .returned (.bool r) ∧ Below w.heap.size w w' := by
 have hu90 := Tryz.underlying90
 have HB := Aside0.mk (Below.refl w.heap.size w)
 have H := h
 clear h
 unfold laws_eqTally.f at H
 repeat' (first
  | ((with_reducible refine none_o H); done)
  | ((with_reducible replace H := ite_t (by with_reducible assumption) H))
  | ((with_reducible replace H := ite_f (by with_reducible assumption) H))
  | ((with_reducible replace H := ite_lt H); rcases H with ⟨c1, H⟩ | ⟨c1, H⟩)
  | ((with_reducible replace H := ite_le H); rcases H with ⟨c1, H⟩ | ⟨c1, H⟩)
  | ((with_reducible replace H := ite_nb H); rcases H with ⟨c1, H⟩ | ⟨c1, H⟩)
  | ((with_reducible replace H := ite_b H); rcases H with ⟨c1, H⟩ | ⟨c1, H⟩ <;> (fail_if_success subst c1))
  | ((with_reducible replace H := ite_ei H); rcases H with ⟨c1, H⟩ | ⟨c1, H⟩)
  | ((with_reducible replace H := ite_es H); rcases H with ⟨c1, H⟩ | ⟨c1, H⟩)
  | ((with_reducible replace H := bind_s H); (try dsimp only at H))
  | ((with_reducible replace H := bind_o H); obtain ⟨t, A, H⟩ := H; (try dsimp only at H))
  | ((with_reducible replace H := ite_b H); rcases H with ⟨rfl, H⟩ | ⟨rfl, H⟩))
 all_goals
  obtain rfl := Option.some.inj H
  go_enter Tryz.func67, Tryz.ntmps67
  go_wp2_with (first
    | ((with_reducible refine gate_dst (N := 2) rfl ?_); refine bx_ (N := 2) ?_; intro g hg w1 hbox hb; have BK := Aside0.mk hbox; have GE := gw_ w zB hg; replace HB := Aside0.mk (below_step zB hb); clear hb hbox hg; have hcz := bc3 BK.out)
    | ((with_reducible refine gate_dst (N := 3) rfl ?_); refine bx_ (N := 3) ?_; intro g2 hg w1 hbox hb; have BK2 := Aside0.mk hbox; have GE2 := gw_ w zB hg; replace HB := Aside0.mk (below_step zB hb); have NB := nb_ BK zKf hg; have NB' := nc_ BK zKf hg; replace BK := bb_ BK zKf hb; clear hb hbox hg; have hcz2 := bc3 BK2.out; have hn := NB.out; have hn' := NB'.out; have hcz := bc3 BK.out))
  go_ret
  exact ⟨zT, zB⟩
def laws_eqTallyS.l0 : Nat → List (S90) → List (S90) → Int → Option (Bool)
  | 0, _, _, _ => none
  | k + 1, x0, x1, x5 => if x5 < (x0.length : Int) then (if 0 ≤ x5 then (if x5 < (x1.length : Int) then ((laws_eqTally.f ((rd_T90 x0 x5).f0) ((rd_T90 x0 x5).f1) ((rd_T90 x0 x5).f2) ((rd_T90 x1 x5).f0) ((rd_T90 x1 x5).f1) ((rd_T90 x1 x5).f2)).bind fun t851 => (if t851 = true then (laws_eqTallyS.l0 k x0 x1 (wrap64 (x5 + 1))) else (some false))) else (none)) else (none)) else (some true)
def laws_eqTallyS.f (k : Nat) (l0 : List (S90)) (l1 : List (S90)) : Option (Bool) := if (l0.length : Int) = (l1.length : Int) then (laws_eqTallyS.l0 k l0 l1 0) else (some false)
def laws_eqTallyS.T6 : Bool × List (List Nat × List Nat) := (true, [([], []), ([], []), ([0, 1], [0, 1]), ([2], [2]), ([], []), ([], []), ([4, 5], [4, 5]), ([6], [6]), ([3, 7], [3, 7]), ([8], [8])])
theorem laws_eqTallyS.tab6 : rtab .any (opsOf Tryz.f32 6) = laws_eqTallyS.T6 := by kernel_rfl
set_option maxHeartbeats 8000000 in
set_option maxRecDepth 100000 in
theorem laws_eqTallyS.calls (k : Nat) (A0 : Option Addr) (c0 : Nat) (l0 : List (S90)) (A1 : Option Addr) (c1 : Nat) (l1 : List (S90)) (r : Bool) (w : World) (hr0 : Kd.C k90 w A0 l0.length l0) (hc0 : l0.length ≤ c0) (hr1 : Kd.C k90 w A1 l1.length l1) (hc1 : l1.length ≤ c1) (h : laws_eqTallyS.f k l0 l1 = some r) :
  Calls Tryz.prog 32 #[.slice A0 l0.length c0, .slice A1 l1.length c1] w fun e w' => e = .returned (.bool r) ∧ Below w.heap.size w w' := by
 have hu90 := Tryz.underlying90
 have HR0 := Aside0.mk hr0
 have HC0 := Aside0.mk hc0
 clear hr0 hc0
 have HR1 := Aside0.mk hr1
 have HC1 := Aside0.mk hc1
 clear hr1 hc1
 have HB := Aside0.mk (Below.refl w.heap.size w)
 have H := h
 clear h
 unfold laws_eqTallyS.f at H
 replace H := ite_ei H
 rcases H with ⟨c0', H⟩ | ⟨c0', H⟩
 rotate_left
 ·
  obtain rfl := Option.some.inj H
  go_enter Tryz.func32, Tryz.ntmps32
  go_wp2
  go_ret
  exact ⟨zT, zB⟩
 have H' := Aside0.mk H
 clear H
 go_enter Tryz.func32, Tryz.ntmps32
 go_wp2
 clear c0'
 go_loopg [5] k (fun kq v5 w' => ∃ (x5_1 : Int), v5 = .int .i64 x5_1 ∧ Aside0 (laws_eqTallyS.l0 kq l0 l1 x5_1 = some r) ∧ Aside0 (kq ≤ k) ∧ Aside0 (Below w.heap.size w w'))
 case atStart => exact ⟨0, zR, H', ⟨Nat.le_refl _⟩, ⟨zB⟩⟩
 case round =>
  clear H'
  obtain ⟨x5_1, rfl, HA, HK1, HB⟩ := hrel
  cases gk with
  | zero => exact absurd HA.out (by simp [laws_eqTallyS.l0])
  | succ k1 =>
   have H := HA.out
   clear HA
   simp only [laws_eqTallyS.l0] at H
   replace H := ite_lt H
   rcases H with ⟨c, H⟩ | ⟨c, H⟩
   rotate_left
   ·
    obtain rfl := Option.some.inj H
    go_wp2
    go_ret
    exact ⟨zT, zB⟩
   replace H := ite_le H
   rcases H with ⟨c', H⟩ | ⟨c', H⟩
   rotate_left
   · exact none_o H
   obtain ⟨ad, e, hx⟩ := at_T90 HR0.out x5_1 (of_decide_eq_true c') (of_decide_eq_true c)
   cases e
   have p := eqt c
   have p' := eqt c'
   replace H := ite_lt H
   rcases H with ⟨c1', H⟩ | ⟨c1', H⟩
   rotate_left
   · exact none_o H
   obtain ⟨ad1, e1, hz⟩ := at_T90 HR1.out x5_1 (of_decide_eq_true c') (of_decide_eq_true c1')
   cases e1
   have p1 := eqt c1'
   go_wp2
   refine start0_ HB.out (fun w_ hHeld => ?_); refine with_tabW laws_eqTallyS.tab6 (B := []) zK (fun HT_ HW_ => ?_)
   clear HB
   repeat' (first
    | ((with_reducible refine none_o H); done)
    | ((with_reducible replace H := ite_t (by with_reducible assumption) H))
    | ((with_reducible replace H := ite_f (by with_reducible assumption) H))
    | ((with_reducible replace H := ite_lt H); rcases H with ⟨c1, H⟩ | ⟨c1, H⟩)
    | ((with_reducible replace H := ite_le H); rcases H with ⟨c1, H⟩ | ⟨c1, H⟩)
    | ((with_reducible replace H := ite_b H); rcases H with ⟨c1, H⟩ | ⟨c1, H⟩ <;> (fail_if_success subst c1))
    | ((with_reducible replace H := ite_ei H); rcases H with ⟨c1, H⟩ | ⟨c1, H⟩)
    | ((with_reducible replace H := ite_es H); rcases H with ⟨c1, H⟩ | ⟨c1, H⟩)
    | ((with_reducible replace H := bind_s H); (try dsimp only at H))
    | ((with_reducible replace H := bind_o H); obtain ⟨t, A, H⟩ := H; (try dsimp only at H))
    | refine us_ ?_ | refine ps_ ?_ | refine ts_ hHeld ?_ (hv := by intro w' hs; have hy_ := cb3 hs hx; have hz_ := cb3 hs hz; go_simp; with_reducible rfl)
    | (refine done_ (done_of HT_.out (by kernel_rfl)) ?_; have HB := Aside0.mk hHeld; (try simp only [World.drewN_drewN] at HB); (first | (obtain rfl := Option.some.inj H; (try go_wp2); go_ret; exact ⟨rfl, HB.out⟩) | (have H' := Aside0.mk H; clear H; (try go_wp2); go_roundg k1; (case measure => exact zM); (case rel => exact ⟨_, zR, H', ⟨zM⟩, ⟨HB.out⟩⟩))))
    | (first
       | refine oc_ Tryz.func67 (laws_eqTally.calls _ _ _ _ _ _ _ _) zPb ?_
       clear hHeld; intro w_ hHeld)
    | ((with_reducible replace H := ite_b H); rcases H with ⟨rfl, H⟩ | ⟨rfl, H⟩))
def laws_eqDot.f (a0_0 : Int) (a0_1 : Int) (a1_0 : Int) (a1_1 : Int) : Option (Bool) := if a0_0 = a1_0 then (if a0_1 = a1_1 then (some true) else (some false)) else (some false)
set_option maxHeartbeats 8000000 in
set_option maxRecDepth 100000 in
theorem laws_eqDot.calls (a0_0 : Int) (a0_1 : Int) (a1_0 : Int) (a1_1 : Int) (r : Bool) (w : World) (h : laws_eqDot.f a0_0 a0_1 a1_0 a1_1 = some r) :
  Calls Tryz.prog 70 #[.agg #[.int .i64 a0_0, .int .i64 a0_1], .agg #[.int .i64 a1_0, .int .i64 a1_1]] w fun e w' => e = .returned (.bool r) ∧ Below w.heap.size w w' := by
 have hu59 := Tryz.underlying59
 have HB := Aside0.mk (Below.refl w.heap.size w)
 have H := h
 unfold laws_eqDot.f at H
 clear h
 by_cases c3 : a0_0 = a1_0
 rotate_left
 ·
  rw [if_neg c3] at H
  have c3b0 : (a0_0 == a1_0) = false := beq_eq_false_iff_ne.mpr c3
  have c3b1 : (a0_0 != a1_0) = true := bne_iff_ne.mpr c3
  obtain rfl := Option.some.inj H
  go_enter Tryz.func70, Tryz.ntmps70
  go_wp2_with (first | ((with_reducible refine gate_dst (N := 2) rfl ?_); refine box_event ?hg (N := 2) ?hd (cs := #[.int .i64 a0_0, .int .i64 a0_1]) (t := 59) ?hr ?_; (case hd => rfl); (case hg => rfl); (case hr => first | (go_simp; done) | (go_simp; rfl)); intro gb852 hg w15 hbox hb; have BK852 := Aside0.mk (hbox); have GW852 := gw_ w z30_1 hg; have GE852 := gw_ w z30_1 hg; replace HB := Aside0.mk (below_step z30_1 hb); clear hb hbox hg) | ((with_reducible refine gate_dst (N := 3) rfl ?_); refine box_event ?hg (N := 3) ?hd (cs := #[.int .i64 a1_0, .int .i64 a1_1]) (t := 59) ?hr ?_; (case hd => rfl); (case hg => rfl); (case hr => first | (go_simp; done) | (go_simp; rfl)); intro gb853 hg w16 hbox hb; have BK853 := Aside0.mk (hbox); have GW853 := gw_ w z30_13 hg; have GE853 := gw_ w z30_13 hg; replace HB := Aside0.mk (below_step z30_13 hb); have NB852_853 := nb_ BK852 z30_17 hg; have NB853_852 := nc_ BK852 z30_17 hg; replace BK852 := bb_ BK852 z30_17 hb; clear hb hbox hg; have hnb17 := NB852_853.out; have hnc17 := NB853_852.out; have hcz18 := bc2 BK852.out; have hcz19 := bc2 BK853.out))
  go_ret
  exact ⟨z30_16, z30_24⟩
 rw [if_pos c3] at H
 have c3b0 : (a0_0 == a1_0) = true := beq_iff_eq.mpr c3
 have c3b1 : (a0_0 != a1_0) = false := bne_eq_false_iff_eq.mpr c3
 clear c3
 by_cases c4 : a0_1 = a1_1
 rotate_left
 ·
  rw [if_neg c4] at H
  have c4b0 : (a0_1 == a1_1) = false := beq_eq_false_iff_ne.mpr c4
  have c4b1 : (a0_1 != a1_1) = true := bne_iff_ne.mpr c4
  obtain rfl := Option.some.inj H
  go_enter Tryz.func70, Tryz.ntmps70
  go_wp2_with (first | ((with_reducible refine gate_dst (N := 2) rfl ?_); refine box_event ?hg (N := 2) ?hd (cs := #[.int .i64 a0_0, .int .i64 a0_1]) (t := 59) ?hr ?_; (case hd => rfl); (case hg => rfl); (case hr => first | (go_simp; done) | (go_simp; rfl)); intro gb852 hg w10 hbox hb; have BK852 := Aside0.mk (hbox); have GW852 := gw_ w z30_1 hg; have GE852 := gw_ w z30_1 hg; replace HB := Aside0.mk (below_step z30_1 hb); clear hb hbox hg) | ((with_reducible refine gate_dst (N := 3) rfl ?_); refine box_event ?hg (N := 3) ?hd (cs := #[.int .i64 a1_0, .int .i64 a1_1]) (t := 59) ?hr ?_; (case hd => rfl); (case hg => rfl); (case hr => first | (go_simp; done) | (go_simp; rfl)); intro gb853 hg w11 hbox hb; have BK853 := Aside0.mk (hbox); have GW853 := gw_ w z30_13 hg; have GE853 := gw_ w z30_13 hg; replace HB := Aside0.mk (below_step z30_13 hb); have NB852_853 := nb_ BK852 z30_17 hg; have NB853_852 := nc_ BK852 z30_17 hg; replace BK852 := bb_ BK852 z30_17 hb; clear hb hbox hg; have hnb12 := NB852_853.out; have hnc12 := NB853_852.out; have hcz13 := bc2 BK852.out; have hcz14 := bc2 BK853.out))
  go_ret
  exact ⟨z30_16, z30_24⟩
 rw [if_pos c4] at H
 have c4b0 : (a0_1 == a1_1) = true := beq_iff_eq.mpr c4
 have c4b1 : (a0_1 != a1_1) = false := bne_eq_false_iff_eq.mpr c4
 clear c4
 obtain rfl := Option.some.inj H
 go_enter Tryz.func70, Tryz.ntmps70
 go_wp2_with (first | ((with_reducible refine gate_dst (N := 2) rfl ?_); refine box_event ?hg (N := 2) ?hd (cs := #[.int .i64 a0_0, .int .i64 a0_1]) (t := 59) ?hr ?_; (case hd => rfl); (case hg => rfl); (case hr => first | (go_simp; done) | (go_simp; rfl)); intro gb852 hg w5 hbox hb; have BK852 := Aside0.mk (hbox); have GW852 := gw_ w z30_1 hg; have GE852 := gw_ w z30_1 hg; replace HB := Aside0.mk (below_step z30_1 hb); clear hb hbox hg) | ((with_reducible refine gate_dst (N := 3) rfl ?_); refine box_event ?hg (N := 3) ?hd (cs := #[.int .i64 a1_0, .int .i64 a1_1]) (t := 59) ?hr ?_; (case hd => rfl); (case hg => rfl); (case hr => first | (go_simp; done) | (go_simp; rfl)); intro gb853 hg w6 hbox hb; have BK853 := Aside0.mk (hbox); have GW853 := gw_ w z30_13 hg; have GE853 := gw_ w z30_13 hg; replace HB := Aside0.mk (below_step z30_13 hb); have NB852_853 := nb_ BK852 z30_17 hg; have NB853_852 := nc_ BK852 z30_17 hg; replace BK852 := bb_ BK852 z30_17 hb; clear hb hbox hg; have hnb7 := NB852_853.out; have hnc7 := NB853_852.out; have hcz8 := bc2 BK852.out; have hcz9 := bc2 BK853.out))
 go_ret
 exact ⟨z30_16, z30_24⟩
end Go.Proofs.YtbanogkoaplcdaaGreat.QDa
