/- Parts of the proof of FnExactDoAll, one behind the other. No condition. -/
import Derived.Test.YtbanogkoaplcdaaGreatVFnExactDoAllM20
namespace Go.Proofs.YtbanogkoaplcdaaGreat.QDa
open Go.RowKit Go.Proofs.YtbanogkoaplcdaaGreat.Short Go.Proofs.YtbanogkoaplcdaaGreatW.PrintWords Go.Proofs.YtbanogkoaplcdaaGreatW.PrintLast Go.Proofs.YtbanogkoaplcdaaGreatW.PrintMore
attribute [local go_sem] max2_int min2_int max_two min_two max_three min_three max_four min_four   -- for this text's walks alone
set_option linter.unusedVariables false
set_option linter.unusedSimpArgs false
attribute [local go_sem high] eqA59
theorem z8_5 {P : Prop} (h : P := by (with_reducible repeat (first | refine blk_drewN ?_ _ | refine blk_drew ?_ | refine blk_alloc ?_ _)); exact BK187.out) : P := h
theorem z8_4 {P : Prop} (h : P := by first | (with_reducible assumption) | assumption) : P := h
theorem z8_3 {P : Prop} (h : P := by repeat (first | (with_reducible first | exact HB.out | apply below_alloc | apply pw_below_drewN | apply below_drew1 | refine below_set ?_ GE186.out | refine below_set ?_ GE187.out) | exact HB.out)) : P := h
theorem z8_2 {P : Prop} (h : P := by repeat (first | (with_reducible first | exact HB.out | apply below_alloc | apply pw_below_drewN | apply below_drew1) | exact HB.out)) : P := h
theorem z8_1 {P : Prop} (h : P := by (with_reducible repeat (first | refine blk_drewN ?_ _ | refine blk_drew ?_ | refine blk_alloc ?_ _)); exact BK186.out) : P := h
theorem z8_0 {P : Prop} (h : P := by repeat (first | (with_reducible first | exact HB.out | apply below_alloc | apply pw_below_drewN | apply below_drew1 | refine below_set ?_ GE186.out) | exact HB.out)) : P := h
def spec_CellAt.l0 : Nat → Int → List Int → List (S90) → List (S93) → List (S96) → Int → Int → Option (Int)
  | 0, _, _, _, _, _, _, _ => none
  | k + 1, x5, x187000, x187001, x187002, x187003, x188000, x188001 => if x5 < (x187003.length : Int) then (if 0 ≤ x5 then (if (((rd_T96 x187003 x5).f1.f0) == x188000 && (((rd_T96 x187003 x5).f1.f1) == x188001)) = true then (some x5) else (spec_CellAt.l0 k (wrap64 (x5 + 1)) x187000 x187001 x187002 x187003 x188000 x188001)) else (none)) else (some (-1))
def spec_CellAt.f (k : Nat) (l0_0 : List Int) (l0_1 : List (S90)) (l0_2 : List (S93)) (l0_3 : List (S96)) (a1_0 : Int) (a1_1 : Int) : Option (Int) := spec_CellAt.l0 k 0 l0_0 l0_1 l0_2 l0_3 a1_0 a1_1
set_option maxHeartbeats 8000000 in
set_option maxRecDepth 100000 in
theorem spec_CellAt.calls (k : Nat) (A0_0 : Option Addr) (c0_0 : Nat) (l0_0 : List Int) (A0_1 : Option Addr) (c0_1 : Nat) (l0_1 : List (S90)) (A0_2 : Option Addr) (c0_2 : Nat) (l0_2 : List (S93)) (A0_3 : Option Addr) (c0_3 : Nat) (l0_3 : List (S96)) (a1_0 : Int) (a1_1 : Int) (r : Int) (w : World) (hr0_0 : Kd.C (Kd.int .i64) w A0_0 l0_0.length l0_0) (hc0_0 : l0_0.length ≤ c0_0) (hr0_1 : Kd.C k90 w A0_1 l0_1.length l0_1) (hc0_1 : l0_1.length ≤ c0_1) (hr0_2 : Kd.C k93 w A0_2 l0_2.length l0_2) (hc0_2 : l0_2.length ≤ c0_2) (hr0_3 : Kd.C k96 w A0_3 l0_3.length l0_3) (hc0_3 : l0_3.length ≤ c0_3) (h : spec_CellAt.f k l0_0 l0_1 l0_2 l0_3 a1_0 a1_1 = some r) :
  Calls Tryz.prog 75 #[.agg #[.slice A0_0 l0_0.length c0_0, .slice A0_1 l0_1.length c0_1, .slice A0_2 l0_2.length c0_2, .slice A0_3 l0_3.length c0_3], .agg #[.int .i64 a1_0, .int .i64 a1_1]] w fun e w' => e = .returned (.int .i64 r) ∧ Below w.heap.size w w' := by
 have hu35 := Tryz.underlying35
 have hu59 := Tryz.underlying59
 have HR0_0 := Aside0.mk hr0_0
 have HC0_0 := Aside0.mk hc0_0
 clear hr0_0 hc0_0
 have HR0_1 := Aside0.mk hr0_1
 have HC0_1 := Aside0.mk hc0_1
 clear hr0_1 hc0_1
 have HR0_2 := Aside0.mk hr0_2
 have HC0_2 := Aside0.mk hc0_2
 clear hr0_2 hc0_2
 have HR0_3 := Aside0.mk hr0_3
 have HC0_3 := Aside0.mk hc0_3
 clear hr0_3 hc0_3
 have HB := Aside0.mk (Below.refl w.heap.size w)
 have H := h
 unfold spec_CellAt.f at H
 clear h
 have H' := Aside0.mk H
 clear H
 go_enter Tryz.func75, Tryz.ntmps75
 go_wp2_with (first | ((with_reducible refine gate_dst (N := 2) rfl ?_); refine box_event ?hg (N := 2) ?hd (cs := #[.slice A0_0 l0_0.length c0_0, .slice A0_1 l0_1.length c0_1, .slice A0_2 l0_2.length c0_2, .slice A0_3 l0_3.length c0_3]) (t := 35) ?hr ?_; (case hd => rfl); (case hg => rfl); (case hr => first | (go_simp; done) | (go_simp; rfl)); intro gb186 hg w3 hbox hb; have BK186 := Aside0.mk (hbox); have GW186 := gw_ w z8_2 hg; have GE186 := gw_ w z8_2 hg; replace HB := Aside0.mk (below_step z8_2 hb); clear hb hbox hg) | ((with_reducible refine gate_dst (N := 3) rfl ?_); refine box_event ?hg (N := 3) ?hd (cs := #[.int .i64 a1_0, .int .i64 a1_1]) (t := 59) ?hr ?_; (case hd => rfl); (case hg => rfl); (case hr => first | (go_simp; done) | (go_simp; rfl)); intro gb187 hg w4 hbox hb; have BK187 := Aside0.mk (hbox); have GW187 := gw_ w z8_0 hg; have GE187 := gw_ w z8_0 hg; replace HB := Aside0.mk (below_step z8_0 hb); have NB186_187 := nb_ BK186 z8_1 hg; have NB187_186 := nc_ BK186 z8_1 hg; replace BK186 := bb_ BK186 z8_1 hb; clear hb hbox hg))
 repeat (go_quiet (first | ((with_reducible refine gate_dst (N := 2) rfl ?_); refine box_event ?hg (N := 2) ?hd (cs := #[.slice A0_0 l0_0.length c0_0, .slice A0_1 l0_1.length c0_1, .slice A0_2 l0_2.length c0_2, .slice A0_3 l0_3.length c0_3]) (t := 35) ?hr ?_; (case hd => rfl); (case hg => rfl); (case hr => first | (go_simp; done) | (go_simp; rfl)); intro gb186 hg w3 hbox hb; have BK186 := Aside0.mk (hbox); have GW186 := gw_ w z8_2 hg; have GE186 := gw_ w z8_2 hg; replace HB := Aside0.mk (below_step z8_2 hb); clear hb hbox hg) | ((with_reducible refine gate_dst (N := 3) rfl ?_); refine box_event ?hg (N := 3) ?hd (cs := #[.int .i64 a1_0, .int .i64 a1_1]) (t := 59) ?hr ?_; (case hd => rfl); (case hg => rfl); (case hr => first | (go_simp; done) | (go_simp; rfl)); intro gb187 hg w4 hbox hb; have BK187 := Aside0.mk (hbox); have GW187 := gw_ w z8_0 hg; have GE187 := gw_ w z8_0 hg; replace HB := Aside0.mk (below_step z8_0 hb); have NB186_187 := nb_ BK186 z8_1 hg; have NB187_186 := nc_ BK186 z8_1 hg; replace BK186 := bb_ BK186 z8_1 hb; clear hb hbox hg)); try go_wp2_with (first | ((with_reducible refine gate_dst (N := 2) rfl ?_); refine box_event ?hg (N := 2) ?hd (cs := #[.slice A0_0 l0_0.length c0_0, .slice A0_1 l0_1.length c0_1, .slice A0_2 l0_2.length c0_2, .slice A0_3 l0_3.length c0_3]) (t := 35) ?hr ?_; (case hd => rfl); (case hg => rfl); (case hr => first | (go_simp; done) | (go_simp; rfl)); intro gb186 hg w3 hbox hb; have BK186 := Aside0.mk (hbox); have GW186 := gw_ w z8_2 hg; have GE186 := gw_ w z8_2 hg; replace HB := Aside0.mk (below_step z8_2 hb); clear hb hbox hg) | ((with_reducible refine gate_dst (N := 3) rfl ?_); refine box_event ?hg (N := 3) ?hd (cs := #[.int .i64 a1_0, .int .i64 a1_1]) (t := 59) ?hr ?_; (case hd => rfl); (case hg => rfl); (case hr => first | (go_simp; done) | (go_simp; rfl)); intro gb187 hg w4 hbox hb; have BK187 := Aside0.mk (hbox); have GW187 := gw_ w z8_0 hg; have GE187 := gw_ w z8_0 hg; replace HB := Aside0.mk (below_step z8_0 hb); have NB186_187 := nb_ BK186 z8_1 hg; have NB187_186 := nc_ BK186 z8_1 hg; replace BK186 := bb_ BK186 z8_1 hb; clear hb hbox hg)))
 go_loopg [5] k (fun kq v5 w' => ∃ (x5_1 : Int), v5 = .int .i64 x5_1 ∧ Aside0 (spec_CellAt.l0 kq x5_1 l0_0 l0_1 l0_2 l0_3 a1_0 a1_1 = some r) ∧ Aside0 (kq ≤ k) ∧ Aside0 (w'.heap[gb186]? = some (.cells #[(.slice A0_0 l0_0.length c0_0), (.slice A0_1 l0_1.length c0_1), (.slice A0_2 l0_2.length c0_2), (.slice A0_3 l0_3.length c0_3)] 35 (0, 0))) ∧ Aside0 (w'.heap[gb187]? = some (.cells #[.int .i64 a1_0, .int .i64 a1_1] 59 (0, 0))) ∧ Aside0 (Below w.heap.size w w'))
 case atStart => exact ⟨(0), (by first | rfl | (simp; done) | (simp [*]; done)), H', ⟨Nat.le_refl _⟩, ⟨z8_1⟩, ⟨z8_5⟩, ⟨z8_3⟩⟩
 case round =>
  clear H'
  try clear p2
  obtain ⟨x5_1, rfl, HA, HK1, BK186, BK187, HB⟩ := hrel
  cases gk with
  | zero => exact absurd HA.out (by simp [spec_CellAt.l0])
  | succ k1 =>
   have H := HA.out
   clear HA
   simp only [spec_CellAt.l0] at H
   by_cases c5 : x5_1 < (l0_3.length : Int)
   rotate_left
   ·
    rw [if_neg c5] at H
    have c5b0 : decide (x5_1 < (l0_3.length : Int)) = false := decide_eq_false c5
    clear c5
    obtain rfl := Option.some.inj H
    have hnb14 := NB186_187.out
    have hnc14 := NB187_186.out
    have hcz15 := bc4 BK186.out
    go_wp2
    repeat (go_quiet (fail); try go_wp2)
    go_ret
    exact ⟨by first | rfl | (simp [errW_none, errW_some] <;> rfl) | (simp [*, errW_none, errW_some] <;> rfl), z8_3⟩
   rw [if_pos c5] at H
   have c5b0 : decide (x5_1 < (l0_3.length : Int)) = true := decide_eq_true c5
   clear c5
   by_cases c6 : 0 ≤ x5_1
   rotate_left
   ·
    rw [if_neg c6] at H
    exact absurd H (by simp)
   rw [if_pos c6] at H
   have c6b0 : decide (0 ≤ x5_1) = true := decide_eq_true c6
   clear c6
   by_cases c7 : (((rd_T96 l0_3 x5_1).f1.f0) == a1_0 && (((rd_T96 l0_3 x5_1).f1.f1) == a1_1)) = true
   ·
    rw [if_pos c7] at H
    have c7b0 : (((rd_T96 l0_3 x5_1).f1.f0) == a1_0 && (((rd_T96 l0_3 x5_1).f1.f1) == a1_1)) = true := c7
    (try (have c7b1 : decide (((rd_T96 l0_3 x5_1).f1.f0) = a1_0 && (((rd_T96 l0_3 x5_1).f1.f1) == a1_1)) = true := by simpa using c7))
    (try (have c7b2 : (((rd_T96 l0_3 x5_1).f1.f0) == a1_0 && (((rd_T96 l0_3 x5_1).f1.f1) == a1_1)) = true := by simpa using c7))
    clear c7
    obtain rfl := Option.some.inj H
    have hnb8 := NB186_187.out
    have hnc8 := NB187_186.out
    have hcz9 := bc4 BK186.out
    have p188 : 0 ≤ (x5_1 : Int) := of_decide_eq_true z8_4
    have q188 : x5_1 < (l0_3.length : Int) := of_decide_eq_true z8_4
    obtain ⟨ad188, e188, hx188_0, hx188_1, hx188_2, hx188_3, hx188_4, hx188_5, hx188_6, hx188_7⟩ := at_T96 HR0_3.out x5_1 p188 q188
    cases e188
    replace hx188_0 := cb_ HB hx188_0
    replace hx188_1 := cb_ HB hx188_1
    replace hx188_2 := cb_ HB hx188_2
    replace hx188_3 := cb_ HB hx188_3
    replace hx188_4 := cb_ HB hx188_4
    replace hx188_5 := cb_ HB hx188_5
    replace hx188_6 := cb_ HB hx188_6
    replace hx188_7 := cb_ HB hx188_7
    replace p188 := eq_true p188
    replace q188 := eq_true q188
    have hcz10 := bc2 BK187.out
    go_wp2
    repeat (go_quiet (fail); try go_wp2)
    go_ret
    exact ⟨by first | rfl | (simp [errW_none, errW_some] <;> rfl) | (simp [*, errW_none, errW_some] <;> rfl), z8_3⟩
   rw [if_neg c7] at H
   have c7b0 : (((rd_T96 l0_3 x5_1).f1.f0) == a1_0 && (((rd_T96 l0_3 x5_1).f1.f1) == a1_1)) = false := by simpa using c7
   (try (have c7b1 : decide (((rd_T96 l0_3 x5_1).f1.f0) = a1_0 && (((rd_T96 l0_3 x5_1).f1.f1) == a1_1)) = false := by simpa using c7))
   (try (have c7b2 : (((rd_T96 l0_3 x5_1).f1.f0) == a1_0 && (((rd_T96 l0_3 x5_1).f1.f1) == a1_1)) = false := by simpa using c7))
   (try (have c7b3 : ¬ (((rd_T96 l0_3 x5_1).f1.f0) = a1_0 && (((rd_T96 l0_3 x5_1).f1.f1) == a1_1)) := by simpa using c7))
   clear c7
   have H' := Aside0.mk H
   clear H
   have hnb11 := NB186_187.out
   have hnc11 := NB187_186.out
   have hcz12 := bc4 BK186.out
   have p188 : 0 ≤ (x5_1 : Int) := of_decide_eq_true z8_4
   have q188 : x5_1 < (l0_3.length : Int) := of_decide_eq_true z8_4
   obtain ⟨ad188, e188, hx188_0, hx188_1, hx188_2, hx188_3, hx188_4, hx188_5, hx188_6, hx188_7⟩ := at_T96 HR0_3.out x5_1 p188 q188
   cases e188
   replace hx188_0 := cb_ HB hx188_0
   replace hx188_1 := cb_ HB hx188_1
   replace hx188_2 := cb_ HB hx188_2
   replace hx188_3 := cb_ HB hx188_3
   replace hx188_4 := cb_ HB hx188_4
   replace hx188_5 := cb_ HB hx188_5
   replace hx188_6 := cb_ HB hx188_6
   replace hx188_7 := cb_ HB hx188_7
   replace p188 := eq_true p188
   replace q188 := eq_true q188
   have hcz13 := bc2 BK187.out
   go_wp2
   repeat (go_quiet (fail); try go_wp2)
   go_roundg k1
   case measure => have := HK1.out; omega
   case rel => exact ⟨(wrap64 (x5_1 + 1)), (by first | rfl | (simp; done) | (simp [*]; done)), H', ⟨by have := HK1.out; omega⟩, ⟨z8_1⟩, ⟨z8_5⟩, ⟨z8_3⟩⟩
end Go.Proofs.YtbanogkoaplcdaaGreat.QDa
