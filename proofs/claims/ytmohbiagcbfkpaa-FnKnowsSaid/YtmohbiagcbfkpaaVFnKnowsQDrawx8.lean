/- What the functions behind Draw compute, and that the program's calls come to just that. Written by a program of this session on the base of the kit's print. No condition. -/
import Derived.Test.YtmohbiagcbfkpaaVFnKnowsQDrawx0
import Derived.Test.YtmohbiagcbfkpaaVFnKnowsQDrawx3
import Derived.Test.YtmohbiagcbfkpaaVFnKnowsQDrawx4
import Derived.Test.YtmohbiagcbfkpaaVFnKnowsQDrawx6
namespace Go.Proofs.Ytmohbiagcbfkpaa.QDraw
open Go.RowKit Go.Proofs.YtmohbiagcbfkpaaW.PrintWords Go.Proofs.YtmohbiagcbfkpaaW.PrintLast Go.Proofs.YtmohbiagcbfkpaaW.PrintMore
attribute [local go_sem] max2_int min2_int max_two min_two max_three min_three max_four min_four   -- for this text's walks alone
set_option linter.unusedVariables false
set_option linter.unusedSimpArgs false
theorem z8_28 {P : Prop} (h : P := by (with_reducible repeat (first | refine blk_drewN ?_ _ | refine blk_drew ?_ | refine blk_alloc ?_ _)); exact BK404.out) : P := h
theorem z8_27 {P : Prop} (h : P := by simp only [Act.put, List.setIfInBounds_toArray, List.set_cons_zero, List.set_cons_succ, i64_w, i32_w]; rfl) : P := h
theorem z8_26 {P : Prop} (h : P := by (with_reducible repeat (first | refine blk_drewN ?_ _ | refine blk_drew ?_ | refine blk_alloc ?_ _)); exact BK416.out) : P := h
theorem z8_25 {P : Prop} (h : P := by (with_reducible repeat (first | refine blk_drewN ?_ _ | refine blk_drew ?_ | refine blk_alloc ?_ _)); exact BK447.out) : P := h
theorem z8_24 {P : Prop} (h : P := by repeat (first | (with_reducible first | exact HB.out | apply below_alloc | apply pw_below_drewN | apply below_drew1 | refine below_set ?_ (IsS172.ge HI387.out)) | exact HB.out)) : P := h
theorem z8_23 {P : Prop} (h : P := by repeat (first | (with_reducible first | exact HK.out | apply KeepBut.set_ | apply keep_drewN | apply keep_drew | apply keep_alloc | refine keep_far ?_ GW404.out _) | exact HK.out)) : P := h
theorem z8_22 {P : Prop} (h : P := by kernel_rfl) : P := h
theorem z8_21 {P : Prop} (h : P := by repeat (first | (with_reducible first | exact HB.out | apply below_alloc | apply pw_below_drewN | apply below_drew1 | refine below_set ?_ (IsS172.ge HI0.out) | refine below_set ?_ GE411.out) | exact HB.out)) : P := h
theorem z8_20 {P : Prop} (h : P := by (with_reducible repeat (first | apply Kd.R_alloc | apply Kd.R_drewN | apply Kd.R_drew)); exact HO371.out) : P := h
theorem z8_19 {P : Prop} (h : P := by repeat (first | (with_reducible first | exact HB.out | apply below_alloc | apply pw_below_drewN | apply below_drew1 | refine below_set ?_ (IsS172.ge HI436.out) | refine below_set ?_ GE432.out) | exact HB.out)) : P := h
theorem z8_18 {P : Prop} (h : P := by repeat (first | (with_reducible first | exact HI0.out | apply IsS172.alloc | apply IsS172.drewN | apply IsS172.drew | apply IsS172.set_1 | apply IsS172.set_2 | refine IsS172.far ?_ NB0_411.out _) | exact HI0.out)) : P := h
theorem z8_17 {P : Prop} (h : P := by repeat (first | (with_reducible first | exact HB.out | apply below_alloc | apply pw_below_drewN | apply below_drew1 | refine below_set ?_ (IsS172.ge HI436.out) | refine below_set ?_ GE432.out | refine below_set ?_ GE441.out) | exact HB.out)) : P := h
theorem z8_16 {P : Prop} (h : P := by first | rfl | (simp; done) | (simp [*]; done)) : P := h
theorem z8_15 {P : Prop} (h : P := by repeat (first | exact Drawn0.refl _ | apply Drawn0.step)) : P := h
theorem z8_14 {P : Prop} (h : P := by (with_reducible repeat (first | refine blk_drewN ?_ _ | refine blk_drew ?_ | refine blk_alloc ?_ _)); refine blk_far ?_ NB411_416.out _; (with_reducible repeat (first | refine blk_drewN ?_ _ | refine blk_drew ?_ | refine blk_alloc ?_ _)); refine blk_far ?_ NB411_416.out _; (with_reducible repeat (first | refine blk_drewN ?_ _ | refine blk_drew ?_ | refine blk_alloc ?_ _)); exact BK411.out) : P := h
theorem z8_13 {P : Prop} (h : P := by first | (with_reducible assumption) | assumption) : P := h
theorem z8_12 {P : Prop} (h : P := by (with_reducible repeat (first | refine blk_drewN ?_ _ | refine blk_drew ?_ | refine blk_alloc ?_ _)); exact BK432.out) : P := h
theorem z8_11 {P : Prop} (h : P := by (with_reducible repeat (first | refine blk_drewN ?_ _ | refine blk_drew ?_ | refine blk_alloc ?_ _)); refine blk_put (cs := #[.int .i64 t412, .int .i64 0]) ?_ 1 _ rfl; (with_reducible repeat (first | refine blk_drewN ?_ _ | refine blk_drew ?_ | refine blk_alloc ?_ _)); refine blk_put (cs := #[.int .i64 0, .int .i64 0]) ?_ 0 _ rfl; (with_reducible repeat (first | refine blk_drewN ?_ _ | refine blk_drew ?_ | refine blk_alloc ?_ _)); exact BK416.out) : P := h
theorem z8_10 {P : Prop} (h : P := by first | rfl | (simp [errW_none, errW_some] <;> rfl) | (simp [*, errW_none, errW_some] <;> rfl)) : P := h
theorem z8_9 {P : Prop} (h : P := by repeat (first | (with_reducible first | exact HB.out | apply below_alloc | apply pw_below_drewN | apply below_drew1 | refine below_set ?_ (IsS172.ge HI0.out) | refine below_set ?_ GE411.out | refine below_set ?_ GE416.out) | exact HB.out)) : P := h
theorem z8_8 {P : Prop} (h : P := by repeat (first | (with_reducible first | exact HI0.out | apply IsS172.alloc | apply IsS172.drewN | apply IsS172.drew | apply IsS172.set_1 | apply IsS172.set_2 | refine IsS172.far ?_ NB0_411.out _ | refine IsS172.far ?_ NB0_416.out _) | exact HI0.out)) : P := h
theorem z8_7 {P : Prop} (h : P := by repeat (first | (with_reducible first | exact HB.out | apply below_alloc | apply pw_below_drewN | apply below_drew1) | exact HB.out)) : P := h
theorem z8_6 {P : Prop} (h : P := by repeat (first | (with_reducible first | exact HB.out | apply below_alloc | apply pw_below_drewN | apply below_drew1 | refine below_set ?_ (IsS172.ge HI0.out)) | exact HB.out)) : P := h
theorem z8_5 {P : Prop} (h : P := by repeat (first | (with_reducible first | exact HI0.out | apply IsS172.alloc | apply IsS172.drewN | apply IsS172.drew | apply IsS172.set_1 | apply IsS172.set_2) | exact HI0.out)) : P := h
theorem z8_4 {P : Prop} (h : P := by (with_reducible repeat (first | refine blk_drewN ?_ _ | refine blk_drew ?_ | refine blk_alloc ?_ _)); exact BK411.out) : P := h
theorem z8_3 {P : Prop} (h : P := by repeat (first | (with_reducible first | exact HK.out | apply KeepBut.set_ | apply keep_drewN | apply keep_drew | apply keep_alloc | refine keep_far ?_ GW411.out _) | exact HK.out)) : P := h
theorem z8_2 {P : Prop} (h : P := by repeat (first | (with_reducible first | exact HK.out | apply KeepBut.set_ | apply keep_drewN | apply keep_drew | apply keep_alloc | refine keep_far ?_ GW411.out _ | refine keep_far ?_ GW416.out _) | exact HK.out)) : P := h
theorem z8_1 {P : Prop} (h : P := by first | rfl | (simp only [List.map_toArray, List.map_cons, List.map_nil]; first | done | rfl)) : P := h
theorem z8_0 {P : Prop} (h : P := by repeat (first | (with_reducible first | exact HK.out | apply KeepBut.set_ | apply keep_drewN | apply keep_drew | apply keep_alloc) | exact HK.out)) : P := h
def spec_l04Any.f (k : Nat) (s0_0 : List Int) (s0_1 : Int) (s0_2 : Int) : Option (List Int × Int × Int) := (spec_l01Below.f s0_0 s0_1 s0_2 12).bind fun bt366 => ((spec_l04Know.f k s0_0 bt366.2.1 bt366.2.2).bind fun bt369 => (if bt366.1 = 0 then (if bt369.1.length < 17592186044416 then (some ((bt369.1 ++ [1]), bt369.2.1, bt369.2.2)) else (none)) else (if bt366.1 = 1 then ((spec_l01PickInt.f s0_0 bt369.2.1 bt369.2.2 (([(-1), 1000, 1001] : List Int))).bind fun bt380 => (if 0 < (bt369.1.length : Int) then (some ((bt369.1.set (0 : Int).toNat bt380.1), bt380.2.1, bt380.2.2)) else (none))) else (some (bt369.1, bt369.2.1, bt369.2.2)))))
set_option maxHeartbeats 8000000 in
set_option maxRecDepth 100000 in
theorem spec_l04Any.calls (k : Nat) (g : Nat) (s0_0 : List Int) (s0_1 : Int) (s0_2 : Int) (r1 : List Int) (r2 : Int) (r3 : Int) (w0 w : World) (hI : IsS172 w0 w g s0_0 s0_1 s0_2) (hB : Below w0.heap.size w0 w) (h : spec_l04Any.f k s0_0 s0_1 s0_2 = some (r1, r2, r3)) :
  Calls Try.prog 135 #[.pointer (some ⟨g, 0, none⟩)] w fun e w' => ∃ v0_ : Value, e = .returned (v0_) ∧ Kd.R (Kd.int .i64) 3 w' w.heap.size (fun _ => True) v0_ r1 ∧ IsS172 w0 w' g s0_0 r2 r3 ∧ Below w0.heap.size w0 w' ∧ KeepBut w w' g none := by
 have HI0 := Aside0.mk hI
 have HK := Aside0.mk (KeepBut.refl w g none)
 have HL := Aside0.mk hB.size
 clear hI
 have HW0 := Aside0.mk hB.size
 have HB := Aside0.mk hB
 clear hB
 have H : ((spec_l01Below.f s0_0 s0_1 s0_2 12).bind fun bt366 => ((spec_l04Know.f k s0_0 bt366.2.1 bt366.2.2).bind fun bt369 => (if bt366.1 = 0 then (if bt369.1.length < 17592186044416 then (some ((bt369.1 ++ [1]), bt369.2.1, bt369.2.2)) else (none)) else (if bt366.1 = 1 then ((spec_l01PickInt.f s0_0 bt369.2.1 bt369.2.2 (([(-1), 1000, 1001] : List Int))).bind fun bt380 => (if 0 < (bt369.1.length : Int) then (some ((bt369.1.set (0 : Int).toNat bt380.1), bt380.2.1, bt380.2.2)) else (none))) else (some (bt369.1, bt369.2.1, bt369.2.2)))))) = some (r1, r2, r3) := h
 clear h
 replace H := Option.bind_eq_some_iff.mp H
 obtain ⟨⟨t366, t367, t368⟩, A20, H⟩ := H
 (try dsimp only at H)
 have A2 := Aside0.mk A20
 clear A20
 replace H := Option.bind_eq_some_iff.mp H
 obtain ⟨⟨t369, t372, t373⟩, A30, H⟩ := H
 (try dsimp only at H)
 have A3 := Aside0.mk A30
 clear A30
 by_cases c4 : t366 = 0
 ·
  rw [if_pos c4] at H
  have c4b0 : (t366 == 0) = true := beq_iff_eq.mpr c4
  have c4b1 : (t366 != 0) = false := bne_eq_false_iff_eq.mpr c4
  clear c4
  by_cases c5 : t369.length < 17592186044416
  ·
   rw [if_pos c5] at H
   have LMc5 := Aside0.mk c5
   clear c5
   obtain ⟨y374, hy374⟩ : ∃ y_ : List Int, y_ = (t369 ++ [1]) := ⟨_, rfl⟩
   replace H : (some (y374, t372, t373)) = some (r1, r2, r3) := by first | (rw [hy374]; with_reducible exact H) | (have H2_ := (Option.bind_some _ _).symm.trans H; rw [hy374]; with_reducible exact H2_) | (have H2_ := (Option.bind_some _ _).symm.trans H; with_reducible exact H2_) | with_reducible exact H | (rw [hy374]; exact H) | exact H
   have Ny374 := Aside0.mk hy374
   clear hy374
   simp only [Option.some.injEq, Prod.mk.injEq] at H
   obtain ⟨rfl, rfl, rfl⟩ := H
   go_enter Try.func135, Try.ntmps135
   go_wp2_with (first | ((with_reducible refine gate_callee (f := 125) rfl ?_); refine goesL_ (some 6) rfl rfl Try.func125 z8_22 rfl #[.pointer (some ⟨g, 0, none⟩), .int .i64 12] rfl z8_1 ?_; (with_reducible refine (spec_l01Below.calls g s0_0 s0_1 s0_2 12 t366 t367 t368 w0 _ ?side1 ?side2 A2.out).mono ?_); (case side1 => repeat (first | (with_reducible first | exact HI0.out | apply IsS172.alloc | apply IsS172.drewN | apply IsS172.drew | apply IsS172.set_1 | apply IsS172.set_2) | exact HI0.out)); (case side2 => repeat (first | (with_reducible first | exact HB.out | apply below_alloc | apply pw_below_drewN | apply below_drew1 | refine below_set ?_ (IsS172.ge HI0.out)) | exact HB.out)); rintro e w6 ⟨rfl, hi, hb, hk⟩; refine ⟨_, rfl, ?_⟩; have n0_ := Aside0.mk (KeepBut.trans z8_0 hk (.inl rfl)); have n1_ := Aside0.mk (hb); have n2_ := Aside0.mk (hi); clear HK; clear HB; clear HI0; have HK := n0_; have HB := n1_; have HI0 := n2_; clear n0_ n1_ n2_) | ((with_reducible refine gate_callee (f := 131) rfl ?_); refine goesL_ (some 8) rfl rfl Try.func131 z8_22 rfl #[.pointer (some ⟨g, 0, none⟩)] rfl z8_1 ?_; (with_reducible refine (spec_l04Know.calls k g s0_0 t367 t368 t369 t372 t373 w0 _ ?side1 ?side2 A3.out).mono ?_); (case side1 => repeat (first | (with_reducible first | exact HI0.out | apply IsS172.alloc | apply IsS172.drewN | apply IsS172.drew | apply IsS172.set_1 | apply IsS172.set_2) | exact HI0.out)); (case side2 => repeat (first | (with_reducible first | exact HB.out | apply below_alloc | apply pw_below_drewN | apply below_drew1 | refine below_set ?_ (IsS172.ge HI0.out)) | exact HB.out)); rintro e w7 ⟨v370, rfl, ho0, hi, hb, hk⟩; refine ⟨_, rfl, ?_⟩; have n0_ := Aside0.mk (Kd.R_lower ho0 (keep_size (w := w) (g := g) (row := none) z8_0)); have n1_ := Aside0.mk (KeepBut.trans z8_0 hk (.inl rfl)); have n2_ := Aside0.mk (hb); have n3_ := Aside0.mk (hi); clear HK; clear HB; clear HI0; have HO371 := n0_; have HK := n1_; have HB := n2_; have HI0 := n3_; clear n0_ n1_ n2_ n3_; (try clear ho0)) | ((with_reducible refine gate_builtin (b := .append) (xs := #[.tmp 12, .tmp 13]) rfl ?_); at_builtin; refine Kd.R_append (Kd.int .i64) w.heap.size rfl (.tmp 12) (.tmp 13) 24 3 (.int .i64 0) 8 rfl Try.underlying24 info3 rfl (by decide) (by omega) v370 t369 1 [.int .i64 1] (fun _ => True) (fun _ => False) rfl rfl ?aP (fun _ hk => hk.elim) ?aF ?aO (Below.refl _ _) ?aS ?aL ?_; (case aP => exact rfl); (case aF => exact (fun _ _ => trivial)); (case aO => exact z8_20); (case aS => exact (keep_size (w := w) (g := g) (row := none) z8_0)); (case aL => have := LMc5.out; omega); intro v375 w8 ho hb hg hat; rw [← Ny374.out] at ho; have n0_ := Aside0.mk (IsS172.grown z8_5 hg (IsS172.own_ne HI0.out HO371.out (by decide))); have n1_ := Aside0.mk (below_weaken z8_6 HL.out hb); have n2_ := Aside0.mk (KeepBut.trans z8_0 (KeepBut.of_grown hg g) (Kd.R_base2 HO371.out)); have n3_ := Aside0.mk (ho); clear HI0; clear HB; clear HK; clear HO371; have HI0 := n0_; have HB := n1_; have HK := n2_; have HO376 := n3_; clear n0_ n1_ n2_ n3_; clear ho hb hg hat))
   go_ret
   exact ⟨_, z8_10, by (with_reducible repeat (first | apply Kd.R_alloc | apply Kd.R_drewN | apply Kd.R_drew)); exact HO376.out, z8_5, z8_6, z8_0⟩
  ·
   rw [if_neg c5] at H
   exact absurd H (by simp)
 ·
  rw [if_neg c4] at H
  have c4b0 : (t366 == 0) = false := beq_eq_false_iff_ne.mpr c4
  have c4b1 : (t366 != 0) = true := bne_iff_ne.mpr c4
  by_cases c9 : t366 = 1
  ·
   rw [if_pos c9] at H
   have c9b0 : (t366 == 1) = true := beq_iff_eq.mpr c9
   have c9b1 : (t366 != 1) = false := bne_eq_false_iff_eq.mpr c9
   clear c9
   obtain ⟨y377, hy377⟩ : ∃ y_ : List Int, y_ = (([(-1), 1000, 1001] : List Int)) := ⟨_, rfl⟩
   replace H : ((spec_l01PickInt.f s0_0 t372 t373 y377).bind fun bt380 => (if 0 < (t369.length : Int) then (some ((t369.set (0 : Int).toNat bt380.1), bt380.2.1, bt380.2.2)) else (none))) = some (r1, r2, r3) := by first | (rw [hy377]; with_reducible exact H) | (have H2_ := (Option.bind_some _ _).symm.trans H; rw [hy377]; with_reducible exact H2_) | (have H2_ := (Option.bind_some _ _).symm.trans H; with_reducible exact H2_) | with_reducible exact H | (rw [hy377]; exact H) | exact H
   have Ny377 := Aside0.mk hy377
   clear hy377
   replace H := Option.bind_eq_some_iff.mp H
   obtain ⟨⟨t380, t381, t382⟩, A100, H⟩ := H
   (try dsimp only at H)
   have A10 := Aside0.mk A100
   clear A100
   by_cases c11 : 0 < (t369.length : Int)
   ·
    rw [if_pos c11] at H
    have c11b0 : decide (0 < (t369.length : Int)) = true := decide_eq_true c11
    have c11b1 : decide (0 < t369.length) = true := decide_eq_true (by omega)
    clear c11
    obtain ⟨y383, hy383⟩ : ∃ y_ : List Int, y_ = (t369.set (0 : Int).toNat t380) := ⟨_, rfl⟩
    replace H : (some (y383, t381, t382)) = some (r1, r2, r3) := by first | (rw [hy383]; with_reducible exact H) | (have H2_ := (Option.bind_some _ _).symm.trans H; rw [hy383]; with_reducible exact H2_) | (have H2_ := (Option.bind_some _ _).symm.trans H; with_reducible exact H2_) | with_reducible exact H | (rw [hy383]; exact H) | exact H
    have Ny383 := Aside0.mk hy383
    clear hy383
    simp only [Option.some.injEq, Prod.mk.injEq] at H
    obtain ⟨rfl, rfl, rfl⟩ := H
    go_enter Try.func135, Try.ntmps135
    go_wp2_with (first | ((with_reducible refine gate_callee (f := 125) rfl ?_); refine goesL_ (some 6) rfl rfl Try.func125 z8_22 rfl #[.pointer (some ⟨g, 0, none⟩), .int .i64 12] rfl z8_1 ?_; (with_reducible refine (spec_l01Below.calls g s0_0 s0_1 s0_2 12 t366 t367 t368 w0 _ ?side1 ?side2 A2.out).mono ?_); (case side1 => repeat (first | (with_reducible first | exact HI0.out | apply IsS172.alloc | apply IsS172.drewN | apply IsS172.drew | apply IsS172.set_1 | apply IsS172.set_2) | exact HI0.out)); (case side2 => repeat (first | (with_reducible first | exact HB.out | apply below_alloc | apply pw_below_drewN | apply below_drew1 | refine below_set ?_ (IsS172.ge HI0.out)) | exact HB.out)); rintro e w13 ⟨rfl, hi, hb, hk⟩; refine ⟨_, rfl, ?_⟩; have n0_ := Aside0.mk (KeepBut.trans z8_0 hk (.inl rfl)); have n1_ := Aside0.mk (hb); have n2_ := Aside0.mk (hi); clear HK; clear HB; clear HI0; have HK := n0_; have HB := n1_; have HI0 := n2_; clear n0_ n1_ n2_) | ((with_reducible refine gate_callee (f := 131) rfl ?_); refine goesL_ (some 8) rfl rfl Try.func131 z8_22 rfl #[.pointer (some ⟨g, 0, none⟩)] rfl z8_1 ?_; (with_reducible refine (spec_l04Know.calls k g s0_0 t367 t368 t369 t372 t373 w0 _ ?side1 ?side2 A3.out).mono ?_); (case side1 => repeat (first | (with_reducible first | exact HI0.out | apply IsS172.alloc | apply IsS172.drewN | apply IsS172.drew | apply IsS172.set_1 | apply IsS172.set_2) | exact HI0.out)); (case side2 => repeat (first | (with_reducible first | exact HB.out | apply below_alloc | apply pw_below_drewN | apply below_drew1 | refine below_set ?_ (IsS172.ge HI0.out)) | exact HB.out)); rintro e w14 ⟨v370, rfl, ho0, hi, hb, hk⟩; refine ⟨_, rfl, ?_⟩; have n0_ := Aside0.mk (Kd.R_lower ho0 (keep_size (w := w) (g := g) (row := none) z8_0)); have n1_ := Aside0.mk (KeepBut.trans z8_0 hk (.inl rfl)); have n2_ := Aside0.mk (hb); have n3_ := Aside0.mk (hi); clear HK; clear HB; clear HI0; have HO371 := n0_; have HK := n1_; have HB := n2_; have HI0 := n3_; clear n0_ n1_ n2_ n3_; (try clear ho0)) | ((with_reducible refine gate_dst (N := 19) rfl ?_); refine Kd.R_lit (Kd.int .i64) _ 3 ?hg (N := 19) ?hd (xs := ([(-1), 1000, 1001] : List Int)) (inner := [.int .i64 (-1), .int .i64 1000, .int .i64 1001]) (ok := fun _ => True) (okp := fun _ => True) ?hr ?hp (fun _ hk => hk) trivial (Below.refl _ _) (Nat.le_refl _) (by simp) ?_; (case hd => rfl); (case hg => rfl); (case hr => first | (go_simp; done) | (go_simp; rfl)); (case hp => exact (Reps.one (show Kd.M (Kd.int .i64) _ _ _ (-1) [.int .i64 (-1)] from rfl) (Reps.one (show Kd.M (Kd.int .i64) _ _ _ 1000 [.int .i64 1000] from rfl) (Reps.one (show Kd.M (Kd.int .i64) _ _ _ 1001 [.int .i64 1001] from rfl) (Reps.none _ _))))); intro v378 w15 ho16 hb hg_ hnew_; clear hg_ hnew_; (first | rw [← Ny377.out] at ho16 | (simp only [Int.reduceToNat] at ho16; rw [← Ny377.out] at ho16)); have n0_ := Aside0.mk (Kd.R_elder' z8_20 (Kd.R_base ho16) hb); have n1_ := Aside0.mk (Kd.R_lower (Kd.R_new' ho16 (Kd.R_lt z8_20)) (keep_size (w := w) (g := g) (row := none) z8_0)); have n2_ := Aside0.mk (IsS172.below z8_5 hb); have n3_ := Aside0.mk (KeepBut.trans z8_0 (KeepBut.of_below hb g none) (.inl rfl)); have n4_ := Aside0.mk (below_step z8_6 hb); clear HO371; clear HI0; clear HK; clear HB; have HO371 := n0_; have HO379 := n1_; have HI0 := n2_; have HK := n3_; have HB := n4_; clear n0_ n1_ n2_ n3_ n4_; clear hb ho16; obtain ⟨Ao17, co17, eo17⟩ := Kd.R_slice HO379.out; subst eo17) | ((with_reducible refine gate_callee (f := 129) rfl ?_); refine goesL_ (some 20) rfl rfl Try.func129 z8_22 rfl #[.pointer (some ⟨g, 0, none⟩), .slice Ao17 y377.length co17] rfl z8_1 ?_; (with_reducible refine (spec_l01PickInt.calls g s0_0 t372 t373 _ _ y377 t380 t381 t382 w0 _ ?side1 ?side2 ?side3 ?side4 ?side5 A10.out).mono ?_); (case side1 => repeat (first | (with_reducible first | exact HI0.out | apply IsS172.alloc | apply IsS172.drewN | apply IsS172.drew | apply IsS172.set_1 | apply IsS172.set_2) | exact HI0.out)); (case side2 => repeat (first | (with_reducible first | exact HB.out | apply below_alloc | apply pw_below_drewN | apply below_drew1 | refine below_set ?_ (IsS172.ge HI0.out)) | exact HB.out)); (case side3 => repeat (first | exact (Kd.R_reads' HO379.out).2.2 | (with_reducible refine Kd.C_alloc ?_ _) | (with_reducible refine Kd.C_drewN ?_ _) | (with_reducible refine Kd.C_drew ?_))); (case side4 => exact (Kd.R_reads' HO379.out).2.1); (case side5 => exact far_slice (IsS172.own_ne HI0.out HO379.out (by decide))); rintro e w18 ⟨rfl, hi, hb, hk⟩; refine ⟨_, rfl, ?_⟩; have n0_ := Aside0.mk (Kd.R_mono (Kd.R_keep (IsS172.apart (show IsS172 w0 _ g s0_0 t372 t373 from by repeat (first | (with_reducible first | exact HI0.out | apply IsS172.alloc | apply IsS172.drewN | apply IsS172.drew | apply IsS172.set_1 | apply IsS172.set_2) | exact HI0.out)) z8_20 (by decide)) hk (fun _ h => h.2)) (fun _ h => h.1)); have n1_ := Aside0.mk (Kd.R_mono (Kd.R_keep (IsS172.apart (show IsS172 w0 _ g s0_0 t372 t373 from by repeat (first | (with_reducible first | exact HI0.out | apply IsS172.alloc | apply IsS172.drewN | apply IsS172.drew | apply IsS172.set_1 | apply IsS172.set_2) | exact HI0.out)) (by (with_reducible repeat (first | apply Kd.R_alloc | apply Kd.R_drewN | apply Kd.R_drew)); exact HO379.out) (by decide)) hk (fun _ h => h.2)) (fun _ h => h.1)); have n2_ := Aside0.mk (KeepBut.trans z8_0 hk (.inl rfl)); have n3_ := Aside0.mk (hb); have n4_ := Aside0.mk (hi); clear HO371; clear HO379; clear HK; clear HB; clear HI0; have HO371 := n0_; have HO379 := n1_; have HK := n2_; have HB := n3_; have HI0 := n4_; clear n0_ n1_ n2_ n3_ n4_; have p12 : 0 ≤ (0 : Int) := (by omega); have q12 : (0 : Int) < ((t369.length : Int) : Int) := of_decide_eq_true z8_13; have qi12 : (0 < t369.length) = True := eq_true (by omega); obtain ⟨go12, co12, eo12, gb12, gl12, cl12, HG12⟩ := Kd.R_form HO371.out (by omega); (first | cases eo12 | (injection eo12 with ea_ en_ ec_; (first | subst ea_ | (injection ea_ with ea_; subst ea_)); subst ec_; clear en_)); have GB12 := Aside0.mk gb12; have GG12 := Aside0.mk HG12; clear gb12 gl12 HG12; obtain ⟨hx12_0, hf12_0⟩ := Kd.R_celln 0 HO371.out (0 : Int) p12 q12; (try rw [show ((0 : Int)).toNat = 0 from rfl] at hx12_0); (try simp only [Nat.reduceMul, Nat.zero_mul, Nat.zero_add, Nat.reduceAdd] at hx12_0); (try rw [show ((0 : Int)).toNat = 0 from rfl] at hf12_0); (try simp only [Nat.reduceMul, Nat.zero_mul, Nat.zero_add, Nat.reduceAdd] at hf12_0); replace p12 := eq_true p12; replace q12 := eq_true q12; have n_ := Aside0.mk (Kd.R_mono (ok' := (fun k_ => some k_ ≠ (.slice Ao17 y377.length co17 : Value).ownBlock)) HO371.out (fun k_ hk => hk.2)); clear HO371; have HO371 := n_; clear n_; obtain ⟨hy19_, hz19_⟩ := Kd.R_celln 0 HO371.out (0 : Int) (by omega) (of_decide_eq_true z8_13); (try simp only [Int.reduceToNat, Int.toNat_zero, Int.toNat_ofNat, Nat.reduceMul, Nat.zero_mul, Nat.zero_add] at hy19_ hz19_); (try rw [show ((0 : Int)).toNat = 0 from rfl] at hy19_); (try rw [show ((0 : Int)).toNat = 0 from rfl] at hz19_); have HP19 := Kd.R_putg HO371.out (0 : Int) t380) | ((with_reducible refine gate_store (t := 3) (p := 21) rfl ?_); refine store_event (t := 3) (p := 21) (v := ?vo_w20) (w1 := (w18.setCell ⟨go12, (0 : Int).toNat, none⟩ (.int .i64 t380))) ?hg ?ho ?hn ?hr ?_; (case ho => rfl); (case hg => rfl); (case hn => rfl); (case hr => first | (go_simp; done) | (go_simp; rfl)); intro w20 hw; have hg : w18.grownBy w20 (some go12) := (by rw [hw]; exact HP19.2); have hp_ : Kd.R (Kd.int .i64) 3 w20 w.heap.size (fun k_ => some k_ ≠ (.slice Ao17 y377.length co17 : Value).ownBlock) (.slice (some ⟨go12, 0, none⟩) t369.length co12) y383 := (by rw [hw, Ny383.out]; exact HP19.1); clear HP19; have n0_ := Aside0.mk (IsS172.grown z8_5 hg (IsS172.own_ne HI0.out HO371.out (by decide))); have n1_ := Aside0.mk (hp_); have n2_ := Aside0.mk (Kd.R_after (v := (.slice (some ⟨go12, 0, none⟩) t369.length co12)) (v1 := (.slice (some ⟨go12, 0, none⟩) t369.length co12)) (ok := (fun _ => True)) (by (with_reducible repeat (first | apply Kd.R_alloc | apply Kd.R_drewN | apply Kd.R_drew)); exact HO379.out) hg (.inl rfl)); have n3_ := Aside0.mk ((by rw [hw]; exact below_set (HB.out) (Nat.le_trans HL.out GB12.out) : Below w0.heap.size w0 w20)); have n4_ := Aside0.mk (KeepBut.trans z8_0 (KeepBut.of_grown hg g) (Kd.R_base2 HO371.out)); clear HI0; clear HO371; clear HO379; clear HB; clear HK; have HI0 := n0_; have HO371 := n1_; have HO379 := n2_; have HB := n3_; have HK := n4_; clear n0_ n1_ n2_ n3_ n4_; clear hg hw hp_))
    go_ret
    exact ⟨_, z8_10, by (with_reducible repeat (first | apply Kd.R_alloc | apply Kd.R_drewN | apply Kd.R_drew)); exact Kd.R_mono HO371.out (fun _ hk => trivial), z8_5, z8_6, z8_0⟩
   ·
    rw [if_neg c11] at H
    exact absurd H (by simp)
  ·
   rw [if_neg c9] at H
   have c9b0 : (t366 == 1) = false := beq_eq_false_iff_ne.mpr c9
   have c9b1 : (t366 != 1) = true := bne_iff_ne.mpr c9
   simp only [Option.some.injEq, Prod.mk.injEq] at H
   obtain ⟨rfl, rfl, rfl⟩ := H
   go_enter Try.func135, Try.ntmps135
   go_wp2_with (first | ((with_reducible refine gate_callee (f := 125) rfl ?_); refine goesL_ (some 6) rfl rfl Try.func125 z8_22 rfl #[.pointer (some ⟨g, 0, none⟩), .int .i64 12] rfl z8_1 ?_; (with_reducible refine (spec_l01Below.calls g s0_0 s0_1 s0_2 12 t366 t367 t368 w0 _ ?side1 ?side2 A2.out).mono ?_); (case side1 => repeat (first | (with_reducible first | exact HI0.out | apply IsS172.alloc | apply IsS172.drewN | apply IsS172.drew | apply IsS172.set_1 | apply IsS172.set_2) | exact HI0.out)); (case side2 => repeat (first | (with_reducible first | exact HB.out | apply below_alloc | apply pw_below_drewN | apply below_drew1 | refine below_set ?_ (IsS172.ge HI0.out)) | exact HB.out)); rintro e w21 ⟨rfl, hi, hb, hk⟩; refine ⟨_, rfl, ?_⟩; have n0_ := Aside0.mk (KeepBut.trans z8_0 hk (.inl rfl)); have n1_ := Aside0.mk (hb); have n2_ := Aside0.mk (hi); clear HK; clear HB; clear HI0; have HK := n0_; have HB := n1_; have HI0 := n2_; clear n0_ n1_ n2_) | ((with_reducible refine gate_callee (f := 131) rfl ?_); refine goesL_ (some 8) rfl rfl Try.func131 z8_22 rfl #[.pointer (some ⟨g, 0, none⟩)] rfl z8_1 ?_; (with_reducible refine (spec_l04Know.calls k g s0_0 t367 t368 t369 t372 t373 w0 _ ?side1 ?side2 A3.out).mono ?_); (case side1 => repeat (first | (with_reducible first | exact HI0.out | apply IsS172.alloc | apply IsS172.drewN | apply IsS172.drew | apply IsS172.set_1 | apply IsS172.set_2) | exact HI0.out)); (case side2 => repeat (first | (with_reducible first | exact HB.out | apply below_alloc | apply pw_below_drewN | apply below_drew1 | refine below_set ?_ (IsS172.ge HI0.out)) | exact HB.out)); rintro e w22 ⟨v370, rfl, ho0, hi, hb, hk⟩; refine ⟨_, rfl, ?_⟩; have n0_ := Aside0.mk (Kd.R_lower ho0 (keep_size (w := w) (g := g) (row := none) z8_0)); have n1_ := Aside0.mk (KeepBut.trans z8_0 hk (.inl rfl)); have n2_ := Aside0.mk (hb); have n3_ := Aside0.mk (hi); clear HK; clear HB; clear HI0; have HO371 := n0_; have HK := n1_; have HB := n2_; have HI0 := n3_; clear n0_ n1_ n2_ n3_; (try clear ho0)))
   go_ret
   exact ⟨_, z8_10, z8_20, z8_5, z8_6, z8_0⟩
def spec_l04Pair.f (k : Nat) (l0 : List Int) : Option (List Int × List Int) := (spec_l01New.f k l0).bind fun bt384 => ((spec_l04Any.f k bt384.1 bt384.2.1 bt384.2.2).bind fun bt388 => ((spec_l04Any.f k bt384.1 bt388.2.1 bt388.2.2).bind fun bt393 => (some (bt388.1, bt393.1))))
set_option maxHeartbeats 8000000 in
set_option maxRecDepth 100000 in
theorem spec_l04Pair.calls (k : Nat) (A0 : Option Addr) (c0 : Nat) (l0 : List Int) (r1 : List Int) (r2 : List Int) (w : World) (hr0 : Kd.C (Kd.int .u8) w A0 l0.length l0) (hc0 : l0.length ≤ c0) (h : spec_l04Pair.f k l0 = some (r1, r2)) :
  Calls Try.prog 133 #[.slice A0 l0.length c0] w fun e w' => ∃ v0_ v1_ : Value, e = .returned (.tuple #[v0_, v1_]) ∧ Kd.R (Kd.int .i64) 3 w' w.heap.size (fun k_ => some k_ ≠ (v1_ : Value).ownBlock) v0_ r1 ∧ Kd.R (Kd.int .i64) 3 w' w.heap.size (fun k_ => some k_ ≠ (v0_ : Value).ownBlock) v1_ r2 ∧ Below w.heap.size w w' := by
 have HR0 := Aside0.mk hr0
 have HC0 := Aside0.mk hc0
 clear hr0 hc0
 have HB := Aside0.mk (Below.refl w.heap.size w)
 have H : ((spec_l01New.f k l0).bind fun bt384 => ((spec_l04Any.f k bt384.1 bt384.2.1 bt384.2.2).bind fun bt388 => ((spec_l04Any.f k bt384.1 bt388.2.1 bt388.2.2).bind fun bt393 => (some (bt388.1, bt393.1))))) = some (r1, r2) := h
 clear h
 replace H := Option.bind_eq_some_iff.mp H
 obtain ⟨⟨t384, t385, t386⟩, A20, H⟩ := H
 (try dsimp only at H)
 have A2 := Aside0.mk A20
 clear A20
 replace H := Option.bind_eq_some_iff.mp H
 obtain ⟨⟨t388, t391, t392⟩, A30, H⟩ := H
 (try dsimp only at H)
 have A3 := Aside0.mk A30
 clear A30
 replace H := Option.bind_eq_some_iff.mp H
 obtain ⟨⟨t393, t396, t397⟩, A40, H⟩ := H
 (try dsimp only at H)
 have A4 := Aside0.mk A40
 clear A40
 simp only [Option.some.injEq, Prod.mk.injEq] at H
 obtain ⟨rfl, rfl⟩ := H
 go_enter Try.func133, Try.ntmps133
 go_wp2_with (first | ((with_reducible refine gate_callee (f := 123) rfl ?_); refine goesL_ (some 7) rfl rfl Try.func123 z8_22 rfl #[.slice A0 l0.length c0] rfl z8_1 ?_; (with_reducible refine (spec_l01New.calls k _ _ l0 t384 t385 t386 w _ ?side1 ?side2 ?side3 A2.out).mono ?_); (case side1 => repeat (first | (with_reducible first | exact HB.out | apply below_alloc | apply pw_below_drewN | apply below_drew1) | exact HB.out)); (case side2 => exact HR0.out); (case side3 => exact HC0.out); rintro e w5 ⟨g387, rfl, hi, hb, hb2⟩; refine ⟨_, rfl, ?_⟩; have n0_ := Aside0.mk (hb); have n1_ := Aside0.mk (hi); clear HB; have HB := n0_; have HI387 := n1_; clear n0_ n1_) | ((with_reducible refine gate_callee (f := 135) rfl ?_); refine goesL_ (some 9) rfl rfl Try.func135 z8_22 rfl #[.pointer (some ⟨g387, 0, none⟩)] rfl z8_1 ?_; (with_reducible refine (spec_l04Any.calls k g387 t384 t385 t386 t388 t391 t392 w _ ?side1 ?side2 A3.out).mono ?_); (case side1 => repeat (first | (with_reducible first | exact HI387.out | apply IsS172.alloc | apply IsS172.drewN | apply IsS172.drew | apply IsS172.set_1 | apply IsS172.set_2) | exact HI387.out)); (case side2 => repeat (first | (with_reducible first | exact HB.out | apply below_alloc | apply pw_below_drewN | apply below_drew1 | refine below_set ?_ (IsS172.ge HI387.out)) | exact HB.out)); rintro e w6 ⟨v389, rfl, ho0, hi, hb, hk⟩; refine ⟨_, rfl, ?_⟩; have n0_ := Aside0.mk (Kd.R_lower ho0 (below_size z8_24)); have n1_ := Aside0.mk (hb); have n2_ := Aside0.mk (hi); clear HB; clear HI387; have HO390 := n0_; have HB := n1_; have HI387 := n2_; clear n0_ n1_ n2_; (try clear ho0)) | ((with_reducible refine gate_callee (f := 135) rfl ?_); refine goesL_ (some 12) rfl rfl Try.func135 z8_22 rfl #[.pointer (some ⟨g387, 0, none⟩)] rfl z8_1 ?_; (with_reducible refine (spec_l04Any.calls k g387 t384 t391 t392 t393 t396 t397 w _ ?side1 ?side2 A4.out).mono ?_); (case side1 => repeat (first | (with_reducible first | exact HI387.out | apply IsS172.alloc | apply IsS172.drewN | apply IsS172.drew | apply IsS172.set_1 | apply IsS172.set_2) | exact HI387.out)); (case side2 => repeat (first | (with_reducible first | exact HB.out | apply below_alloc | apply pw_below_drewN | apply below_drew1 | refine below_set ?_ (IsS172.ge HI387.out)) | exact HB.out)); rintro e w7 ⟨v394, rfl, ho0, hi, hb, hk⟩; refine ⟨_, rfl, ?_⟩; have n0_ := Aside0.mk (Kd.R_mono (Kd.R_told (Kd.R_oldK (IsS172.apart (show IsS172 w _ g387 t384 t391 t392 from by repeat (first | (with_reducible first | exact HI387.out | apply IsS172.alloc | apply IsS172.drewN | apply IsS172.drew | apply IsS172.set_1 | apply IsS172.set_2) | exact HI387.out)) (by (with_reducible repeat (first | apply Kd.R_alloc | apply Kd.R_drewN | apply Kd.R_drew)); exact HO390.out) (by decide)) hk) (Kd.R_base ho0)) (fun _ h_ => h_.1)); have n1_ := Aside0.mk (Kd.R_lower (Kd.R_new' ho0 (Kd.R_lt (by (with_reducible repeat (first | apply Kd.R_alloc | apply Kd.R_drewN | apply Kd.R_drew)); exact HO390.out))) (below_size z8_24)); have n2_ := Aside0.mk (hb); have n3_ := Aside0.mk (hi); clear HO390; clear HB; clear HI387; have HO390 := n0_; have HO395 := n1_; have HB := n2_; have HI387 := n3_; clear n0_ n1_ n2_ n3_; (try clear ho0)))
 go_ret2
 exact ⟨_, _, z8_10, by (with_reducible repeat (first | apply Kd.R_alloc | apply Kd.R_drewN | apply Kd.R_drew)); exact Kd.R_mono HO390.out (fun _ hk => by first | exact hk.2 | trivial), by (with_reducible repeat (first | apply Kd.R_alloc | apply Kd.R_drewN | apply Kd.R_drew)); exact Kd.R_mono HO395.out (fun _ hk => by first | exact hk.2 | trivial), z8_24⟩
def spec_DrawKnowIn.f (k : Nat) (l0 : List Int) : Option (List Int × List Int) := (spec_l04Pair.f k l0).bind fun bt398 => (some (bt398.1, bt398.2))
set_option maxHeartbeats 8000000 in
set_option maxRecDepth 100000 in
theorem spec_DrawKnowIn.calls (k : Nat) (A0 : Option Addr) (c0 : Nat) (l0 : List Int) (r1 : List Int) (r2 : List Int) (w : World) (hr0 : Kd.C (Kd.int .u8) w A0 l0.length l0) (hc0 : l0.length ≤ c0) (h : spec_DrawKnowIn.f k l0 = some (r1, r2)) :
  Calls Try.prog 69 #[.slice A0 l0.length c0] w fun e w' => ∃ v0_ v1_ : Value, e = .returned (.tuple #[v0_, v1_]) ∧ Kd.R (Kd.int .i64) 3 w' w.heap.size (fun k_ => some k_ ≠ (v1_ : Value).ownBlock) v0_ r1 ∧ Kd.R (Kd.int .i64) 3 w' w.heap.size (fun k_ => some k_ ≠ (v0_ : Value).ownBlock) v1_ r2 ∧ Below w.heap.size w w' := by
 have HR0 := Aside0.mk hr0
 have HC0 := Aside0.mk hc0
 clear hr0 hc0
 have HB := Aside0.mk (Below.refl w.heap.size w)
 have H : ((spec_l04Pair.f k l0).bind fun bt398 => (some (bt398.1, bt398.2))) = some (r1, r2) := h
 clear h
 replace H := Option.bind_eq_some_iff.mp H
 obtain ⟨⟨t398, t399⟩, A20, H⟩ := H
 (try dsimp only at H)
 have A2 := Aside0.mk A20
 clear A20
 simp only [Option.some.injEq, Prod.mk.injEq] at H
 obtain ⟨rfl, rfl⟩ := H
 go_enter Try.func69, Try.ntmps69
 go_wp2_with (first | ((with_reducible refine gate_callee (f := 133) rfl ?_); refine goesL_ (some 5) rfl rfl Try.func133 z8_22 rfl #[.slice A0 l0.length c0] rfl z8_1 ?_; (with_reducible refine (spec_l04Pair.calls k _ _ l0 t398 t399 _ ?side1 ?side2 A2.out).mono ?_); (case side1 => repeat (first | exact HR0.out | (with_reducible refine Kd.C_alloc ?_ _) | (with_reducible refine Kd.C_drewN ?_ _) | (with_reducible refine Kd.C_drew ?_))); (case side2 => exact HC0.out); rintro e w3 ⟨v400, v402, rfl, ho0, ho1, hb⟩; refine ⟨_, rfl, ?_⟩; have n0_ := Aside0.mk (Kd.R_lower ho0 (below_size z8_7)); have n1_ := Aside0.mk (Kd.R_lower ho1 (below_size z8_7)); have n2_ := Aside0.mk (below_step z8_7 hb); clear HB; have HO401 := n0_; have HO403 := n1_; have HB := n2_; clear n0_ n1_ n2_; (try clear ho0); (try clear ho1)))
 go_ret2
 exact ⟨_, _, z8_10, by (with_reducible repeat (first | apply Kd.R_alloc | apply Kd.R_drewN | apply Kd.R_drew)); exact HO401.out, by (with_reducible repeat (first | apply Kd.R_alloc | apply Kd.R_drewN | apply Kd.R_drew)); exact HO403.out, z8_7⟩
def spec_l04Dot.f (s0_0 : List Int) (s0_1 : Int) (s0_2 : Int) : Option (Int × Int × Int × Int) := (spec_l01Below.f s0_0 s0_1 s0_2 3).bind fun bt405 => ((spec_l01Below.f s0_0 bt405.2.1 bt405.2.2 5).bind fun bt408 => (some (bt405.1, wrap64 (1 + bt408.1), bt408.2.1, bt408.2.2)))
set_option maxHeartbeats 8000000 in
set_option maxRecDepth 100000 in
theorem spec_l04Dot.calls (g : Nat) (s0_0 : List Int) (s0_1 : Int) (s0_2 : Int) (r1 : Int) (r2 : Int) (r3 : Int) (r4 : Int) (w0 w : World) (hI : IsS172 w0 w g s0_0 s0_1 s0_2) (hB : Below w0.heap.size w0 w) (h : spec_l04Dot.f s0_0 s0_1 s0_2 = some (r1, r2, r3, r4)) :
  Calls Try.prog 159 #[.pointer (some ⟨g, 0, none⟩)] w fun e w' => e = .returned (.agg #[.int .i64 r1, .int .i64 r2]) ∧ IsS172 w0 w' g s0_0 r3 r4 ∧ Below w0.heap.size w0 w' ∧ KeepBut w w' g none := by
 have hu29 := Try.underlying29
 have HI0 := Aside0.mk hI
 have HK := Aside0.mk (KeepBut.refl w g none)
 have HL := Aside0.mk hB.size
 clear hI
 have HW0 := Aside0.mk hB.size
 have HB := Aside0.mk hB
 clear hB
 have H : ((spec_l01Below.f s0_0 s0_1 s0_2 3).bind fun bt405 => ((spec_l01Below.f s0_0 bt405.2.1 bt405.2.2 5).bind fun bt408 => (some (bt405.1, wrap64 (1 + bt408.1), bt408.2.1, bt408.2.2)))) = some (r1, r2, r3, r4) := h
 clear h
 replace H := Option.bind_eq_some_iff.mp H
 obtain ⟨⟨t405, t406, t407⟩, A20, H⟩ := H
 (try dsimp only at H)
 have A2 := Aside0.mk A20
 clear A20
 replace H := Option.bind_eq_some_iff.mp H
 obtain ⟨⟨t408, t409, t410⟩, A30, H⟩ := H
 (try dsimp only at H)
 have A3 := Aside0.mk A30
 clear A30
 simp only [Option.some.injEq, Prod.mk.injEq] at H
 obtain ⟨rfl, rfl, rfl, rfl⟩ := H
 go_enter Try.func159, Try.ntmps159
 go_wp2_with (first | ((with_reducible refine gate_dst (N := 2) rfl ?_); refine box_event ?hg (N := 2) ?hd (cs := #[.int .i64 0, .int .i64 0]) (t := 29) ?hr ?_; (case hd => rfl); (case hg => rfl); (case hr => first | (go_simp; done) | (go_simp; rfl)); intro gb404 hg w4 hbox hb; have n0_ := Aside0.mk (IsS172.below z8_5 hb); have n1_ := Aside0.mk (KeepBut.trans z8_0 (KeepBut.of_below hb g none) (.inl rfl)); have n2_ := Aside0.mk (below_step z8_6 hb); have n3_ := Aside0.mk (hbox); have n4_ := Aside0.mk ((by rw [hg]; exact (keep_size (w := w) (g := g) (row := none) z8_0) : w.heap.size ≤ gb404)); have n5_ := Aside0.mk ((Nat.le_trans HW0.out (by rw [hg]; exact (keep_size (w := w) (g := g) (row := none) z8_0) : w.heap.size ≤ gb404) : w0.heap.size ≤ gb404)); have n6_ := Aside0.mk ((by rw [hg]; exact Nat.ne_of_lt (IsS172.lt (show IsS172 w0 _ g s0_0 s0_1 s0_2 from by repeat (first | (with_reducible first | exact HI0.out | apply IsS172.alloc | apply IsS172.drewN | apply IsS172.drew | apply IsS172.set_1 | apply IsS172.set_2) | exact HI0.out))) : g ≠ gb404)); have n7_ := Aside0.mk ((by rw [hg]; exact Nat.ne_of_gt (IsS172.lt (show IsS172 w0 _ g s0_0 s0_1 s0_2 from by repeat (first | (with_reducible first | exact HI0.out | apply IsS172.alloc | apply IsS172.drewN | apply IsS172.drew | apply IsS172.set_1 | apply IsS172.set_2) | exact HI0.out))) : gb404 ≠ g)); clear HI0; clear HK; clear HB; have HI0 := n0_; have HK := n1_; have HB := n2_; have BK404 := n3_; have GW404 := n4_; have GE404 := n5_; have NB0_404 := n6_; have NB404_0 := n7_; clear n0_ n1_ n2_ n3_ n4_ n5_ n6_ n7_; clear hb hbox hg) | ((with_reducible refine gate_callee (f := 125) rfl ?_); refine goesL_ (some 4) rfl rfl Try.func125 z8_22 rfl #[.pointer (some ⟨g, 0, none⟩), .int .i64 3] rfl z8_1 ?_; (with_reducible refine (spec_l01Below.calls g s0_0 s0_1 s0_2 3 t405 t406 t407 w0 _ ?side1 ?side2 A2.out).mono ?_); (case side1 => repeat (first | (with_reducible first | exact HI0.out | apply IsS172.alloc | apply IsS172.drewN | apply IsS172.drew | apply IsS172.set_1 | apply IsS172.set_2 | refine IsS172.far ?_ NB0_404.out _) | exact HI0.out)); (case side2 => repeat (first | (with_reducible first | exact HB.out | apply below_alloc | apply pw_below_drewN | apply below_drew1 | refine below_set ?_ (IsS172.ge HI0.out) | refine below_set ?_ GE404.out) | exact HB.out)); rintro e w5 ⟨rfl, hi, hb, hk⟩; refine ⟨_, rfl, ?_⟩; have n0_ := Aside0.mk (KeepBut.blk hk (g' := gb404) (o := .cells #[.int .i64 0, .int .i64 0] 29 (0, 0)) z8_28 NB404_0.out (by simp)); have n1_ := Aside0.mk (KeepBut.trans z8_23 hk (.inl rfl)); have n2_ := Aside0.mk (hb); have n3_ := Aside0.mk (hi); clear BK404; clear HK; clear HB; clear HI0; have BK404 := n0_; have HK := n1_; have HB := n2_; have HI0 := n3_; clear n0_ n1_ n2_ n3_) | ((with_reducible refine gate_callee (f := 125) rfl ?_); refine goesL_ (some 6) rfl rfl Try.func125 z8_22 rfl #[.pointer (some ⟨g, 0, none⟩), .int .i64 5] rfl z8_1 ?_; (with_reducible refine (spec_l01Below.calls g s0_0 t406 t407 5 t408 t409 t410 w0 _ ?side1 ?side2 A3.out).mono ?_); (case side1 => repeat (first | (with_reducible first | exact HI0.out | apply IsS172.alloc | apply IsS172.drewN | apply IsS172.drew | apply IsS172.set_1 | apply IsS172.set_2 | refine IsS172.far ?_ NB0_404.out _) | exact HI0.out)); (case side2 => repeat (first | (with_reducible first | exact HB.out | apply below_alloc | apply pw_below_drewN | apply below_drew1 | refine below_set ?_ (IsS172.ge HI0.out) | refine below_set ?_ GE404.out) | exact HB.out)); rintro e w6 ⟨rfl, hi, hb, hk⟩; refine ⟨_, rfl, ?_⟩; have n0_ := Aside0.mk (KeepBut.blk hk (g' := gb404) (o := .cells #[.int .i64 0, .int .i64 0] 29 (0, 0)) z8_28 NB404_0.out (by simp)); have n1_ := Aside0.mk (KeepBut.trans z8_23 hk (.inl rfl)); have n2_ := Aside0.mk (hb); have n3_ := Aside0.mk (hi); clear BK404; clear HK; clear HB; clear HI0; have BK404 := n0_; have HK := n1_; have HB := n2_; have HI0 := n3_; clear n0_ n1_ n2_ n3_; have hnb7 := NB404_0.out; have hnc7 := NB0_404.out; have hcz8_0 : w6.cell? ⟨gb404, 0, none⟩ = some (.int .i64 0) := (blk_cell BK404.out 0).trans rfl; have hcz8_1 : w6.cell? ⟨gb404, 1, none⟩ = some (.int .i64 0) := (blk_cell BK404.out 1).trans rfl; have hfz8_0 := blk_frozen BK404.out 0; have hfz8_1 := blk_frozen BK404.out 1))
 refine bodyPost_ret (results_cell_row rfl _ _ gb404 29 #[.int .i64 t405, .int .i64 (wrap64 (1 + t408))] (0, 0) _ rfl (by (with_reducible repeat (first | refine blk_drewN ?_ _ | refine blk_drew ?_ | refine blk_alloc ?_ _)); refine blk_put (cs := #[.int .i64 t405, .int .i64 0]) ?_ 1 _ rfl; (with_reducible repeat (first | refine blk_drewN ?_ _ | refine blk_drew ?_ | refine blk_alloc ?_ _)); refine blk_put (cs := #[.int .i64 0, .int .i64 0]) ?_ 0 _ rfl; (with_reducible repeat (first | refine blk_drewN ?_ _ | refine blk_drew ?_ | refine blk_alloc ?_ _)); exact BK404.out) Try.underlying29 rfl z8_22) rfl ?_
 exact ⟨z8_10, by repeat (first | (with_reducible first | exact HI0.out | apply IsS172.alloc | apply IsS172.drewN | apply IsS172.drew | apply IsS172.set_1 | apply IsS172.set_2 | refine IsS172.far ?_ NB0_404.out _) | exact HI0.out), by repeat (first | (with_reducible first | exact HB.out | apply below_alloc | apply pw_below_drewN | apply below_drew1 | refine below_set ?_ (IsS172.ge HI0.out) | refine below_set ?_ GE404.out) | exact HB.out), z8_23⟩
def spec_l04AnyDot.f (s0_0 : List Int) (s0_1 : Int) (s0_2 : Int) : Option (Int × Int × Int × Int) := (spec_l04Dot.f s0_0 s0_1 s0_2).bind fun bt412 => ((spec_l01Below.f s0_0 bt412.2.2.1 bt412.2.2.2 10).bind fun bt417 => (if bt417.1 = 0 then ((spec_l01PickInt.f s0_0 bt417.2.1 bt417.2.2 (([(-1), 3] : List Int))).bind fun bt423 => (some (bt423.1, bt412.2.1, bt423.2.1, bt423.2.2))) else (if bt417.1 = 1 then ((spec_l01PickInt.f s0_0 bt417.2.1 bt417.2.2 (([0, 1000, 1001] : List Int))).bind fun bt429 => (some (bt412.1, bt429.1, bt429.2.1, bt429.2.2))) else (some (bt412.1, bt412.2.1, bt417.2.1, bt417.2.2)))))
set_option maxHeartbeats 8000000 in
set_option maxRecDepth 100000 in
theorem spec_l04AnyDot.calls (g : Nat) (s0_0 : List Int) (s0_1 : Int) (s0_2 : Int) (r1 : Int) (r2 : Int) (r3 : Int) (r4 : Int) (w0 w : World) (hI : IsS172 w0 w g s0_0 s0_1 s0_2) (hB : Below w0.heap.size w0 w) (h : spec_l04AnyDot.f s0_0 s0_1 s0_2 = some (r1, r2, r3, r4)) :
  Calls Try.prog 134 #[.pointer (some ⟨g, 0, none⟩)] w fun e w' => e = .returned (.agg #[.int .i64 r1, .int .i64 r2]) ∧ IsS172 w0 w' g s0_0 r3 r4 ∧ Below w0.heap.size w0 w' ∧ KeepBut w w' g none := by
 have hu29 := Try.underlying29
 have HI0 := Aside0.mk hI
 have HK := Aside0.mk (KeepBut.refl w g none)
 have HL := Aside0.mk hB.size
 clear hI
 have HW0 := Aside0.mk hB.size
 have HB := Aside0.mk hB
 clear hB
 have H : ((spec_l04Dot.f s0_0 s0_1 s0_2).bind fun bt412 => ((spec_l01Below.f s0_0 bt412.2.2.1 bt412.2.2.2 10).bind fun bt417 => (if bt417.1 = 0 then ((spec_l01PickInt.f s0_0 bt417.2.1 bt417.2.2 (([(-1), 3] : List Int))).bind fun bt423 => (some (bt423.1, bt412.2.1, bt423.2.1, bt423.2.2))) else (if bt417.1 = 1 then ((spec_l01PickInt.f s0_0 bt417.2.1 bt417.2.2 (([0, 1000, 1001] : List Int))).bind fun bt429 => (some (bt412.1, bt429.1, bt429.2.1, bt429.2.2))) else (some (bt412.1, bt412.2.1, bt417.2.1, bt417.2.2)))))) = some (r1, r2, r3, r4) := h
 clear h
 replace H := Option.bind_eq_some_iff.mp H
 obtain ⟨⟨t412, t413, t414, t415⟩, A20, H⟩ := H
 (try dsimp only at H)
 have A2 := Aside0.mk A20
 clear A20
 replace H := Option.bind_eq_some_iff.mp H
 obtain ⟨⟨t417, t418, t419⟩, A30, H⟩ := H
 (try dsimp only at H)
 have A3 := Aside0.mk A30
 clear A30
 by_cases c4 : t417 = 0
 ·
  rw [if_pos c4] at H
  have c4b0 : (t417 == 0) = true := beq_iff_eq.mpr c4
  have c4b1 : (t417 != 0) = false := bne_eq_false_iff_eq.mpr c4
  clear c4
  obtain ⟨y420, hy420⟩ : ∃ y_ : List Int, y_ = (([(-1), 3] : List Int)) := ⟨_, rfl⟩
  replace H : ((spec_l01PickInt.f s0_0 t418 t419 y420).bind fun bt423 => (some (bt423.1, t413, bt423.2.1, bt423.2.2))) = some (r1, r2, r3, r4) := by first | (rw [hy420]; with_reducible exact H) | (have H2_ := (Option.bind_some _ _).symm.trans H; rw [hy420]; with_reducible exact H2_) | (have H2_ := (Option.bind_some _ _).symm.trans H; with_reducible exact H2_) | with_reducible exact H | (rw [hy420]; exact H) | exact H
  have Ny420 := Aside0.mk hy420
  clear hy420
  replace H := Option.bind_eq_some_iff.mp H
  obtain ⟨⟨t423, t424, t425⟩, A50, H⟩ := H
  (try dsimp only at H)
  have A5 := Aside0.mk A50
  clear A50
  simp only [Option.some.injEq, Prod.mk.injEq] at H
  obtain ⟨rfl, rfl, rfl, rfl⟩ := H
  go_enter Try.func134, Try.ntmps134
  go_wp2_with (first | ((with_reducible refine gate_dst (N := 2) rfl ?_); refine box_event ?hg (N := 2) ?hd (cs := #[.int .i64 0, .int .i64 0]) (t := 29) ?hr ?_; (case hd => rfl); (case hg => rfl); (case hr => first | (go_simp; done) | (go_simp; rfl)); intro gb411 hg w6 hbox hb; have n0_ := Aside0.mk (IsS172.below z8_5 hb); have n1_ := Aside0.mk (KeepBut.trans z8_0 (KeepBut.of_below hb g none) (.inl rfl)); have n2_ := Aside0.mk (below_step z8_6 hb); have n3_ := Aside0.mk (hbox); have n4_ := Aside0.mk ((by rw [hg]; exact (keep_size (w := w) (g := g) (row := none) z8_0) : w.heap.size ≤ gb411)); have n5_ := Aside0.mk ((Nat.le_trans HW0.out (by rw [hg]; exact (keep_size (w := w) (g := g) (row := none) z8_0) : w.heap.size ≤ gb411) : w0.heap.size ≤ gb411)); have n6_ := Aside0.mk ((by rw [hg]; exact Nat.ne_of_lt (IsS172.lt (show IsS172 w0 _ g s0_0 s0_1 s0_2 from by repeat (first | (with_reducible first | exact HI0.out | apply IsS172.alloc | apply IsS172.drewN | apply IsS172.drew | apply IsS172.set_1 | apply IsS172.set_2) | exact HI0.out))) : g ≠ gb411)); have n7_ := Aside0.mk ((by rw [hg]; exact Nat.ne_of_gt (IsS172.lt (show IsS172 w0 _ g s0_0 s0_1 s0_2 from by repeat (first | (with_reducible first | exact HI0.out | apply IsS172.alloc | apply IsS172.drewN | apply IsS172.drew | apply IsS172.set_1 | apply IsS172.set_2) | exact HI0.out))) : gb411 ≠ g)); clear HI0; clear HK; clear HB; have HI0 := n0_; have HK := n1_; have HB := n2_; have BK411 := n3_; have GW411 := n4_; have GE411 := n5_; have NB0_411 := n6_; have NB411_0 := n7_; clear n0_ n1_ n2_ n3_ n4_ n5_ n6_ n7_; clear hb hbox hg) | ((with_reducible refine gate_callee (f := 159) rfl ?_); refine goesL_ (some 5) rfl rfl Try.func159 z8_22 rfl #[.pointer (some ⟨g, 0, none⟩)] rfl z8_1 ?_; (with_reducible refine (spec_l04Dot.calls g s0_0 s0_1 s0_2 t412 t413 t414 t415 w0 _ ?side1 ?side2 A2.out).mono ?_); (case side1 => repeat (first | (with_reducible first | exact HI0.out | apply IsS172.alloc | apply IsS172.drewN | apply IsS172.drew | apply IsS172.set_1 | apply IsS172.set_2 | refine IsS172.far ?_ NB0_411.out _) | exact HI0.out)); (case side2 => repeat (first | (with_reducible first | exact HB.out | apply below_alloc | apply pw_below_drewN | apply below_drew1 | refine below_set ?_ (IsS172.ge HI0.out) | refine below_set ?_ GE411.out) | exact HB.out)); rintro e w7 ⟨rfl, hi, hb, hk⟩; refine ⟨_, rfl, ?_⟩; have n0_ := Aside0.mk (KeepBut.blk hk (g' := gb411) (o := .cells #[.int .i64 0, .int .i64 0] 29 (0, 0)) z8_4 NB411_0.out (by simp)); have n1_ := Aside0.mk (KeepBut.trans z8_3 hk (.inl rfl)); have n2_ := Aside0.mk (hb); have n3_ := Aside0.mk (hi); clear BK411; clear HK; clear HB; clear HI0; have BK411 := n0_; have HK := n1_; have HB := n2_; have HI0 := n3_; clear n0_ n1_ n2_ n3_) | ((with_reducible refine gate_dst (N := 3) rfl ?_); refine box_event ?hg (N := 3) ?hd (cs := #[.int .i64 0, .int .i64 0]) (t := 29) ?hr ?_; (case hd => rfl); (case hg => rfl); (case hr => first | (go_simp; done) | (go_simp; rfl)); intro gb416 hg w8 hbox hb; have n0_ := Aside0.mk (IsS172.below z8_18 hb); have n1_ := Aside0.mk (blk_below (g := gb411) (o := .cells #[.int .i64 0, .int .i64 0] 29 (0, 0)) z8_4 hb); have n2_ := Aside0.mk (KeepBut.trans z8_3 (KeepBut.of_below hb g none) (.inl rfl)); have n3_ := Aside0.mk (below_step z8_21 hb); have n4_ := Aside0.mk (hbox); have n5_ := Aside0.mk ((by rw [hg]; exact (keep_size (w := w) (g := g) (row := none) z8_3) : w.heap.size ≤ gb416)); have n6_ := Aside0.mk ((Nat.le_trans HW0.out (by rw [hg]; exact (keep_size (w := w) (g := g) (row := none) z8_3) : w.heap.size ≤ gb416) : w0.heap.size ≤ gb416)); have n7_ := Aside0.mk ((by rw [hg]; exact Nat.ne_of_lt (blk_lt (g := gb411) (o := .cells #[.int .i64 0, .int .i64 0] 29 (0, 0)) z8_4) : gb411 ≠ gb416)); have n8_ := Aside0.mk ((by rw [hg]; exact Nat.ne_of_gt (blk_lt (g := gb411) (o := .cells #[.int .i64 0, .int .i64 0] 29 (0, 0)) z8_4) : gb416 ≠ gb411)); have n9_ := Aside0.mk ((by rw [hg]; exact Nat.ne_of_lt (IsS172.lt (show IsS172 w0 _ g s0_0 t414 t415 from by repeat (first | (with_reducible first | exact HI0.out | apply IsS172.alloc | apply IsS172.drewN | apply IsS172.drew | apply IsS172.set_1 | apply IsS172.set_2 | refine IsS172.far ?_ NB0_411.out _) | exact HI0.out))) : g ≠ gb416)); have n10_ := Aside0.mk ((by rw [hg]; exact Nat.ne_of_gt (IsS172.lt (show IsS172 w0 _ g s0_0 t414 t415 from by repeat (first | (with_reducible first | exact HI0.out | apply IsS172.alloc | apply IsS172.drewN | apply IsS172.drew | apply IsS172.set_1 | apply IsS172.set_2 | refine IsS172.far ?_ NB0_411.out _) | exact HI0.out))) : gb416 ≠ g)); clear HI0; clear BK411; clear HK; clear HB; have HI0 := n0_; have BK411 := n1_; have HK := n2_; have HB := n3_; have BK416 := n4_; have GW416 := n5_; have GE416 := n6_; have NB411_416 := n7_; have NB416_411 := n8_; have NB0_416 := n9_; have NB416_0 := n10_; clear n0_ n1_ n2_ n3_ n4_ n5_ n6_ n7_ n8_ n9_ n10_; clear hb hbox hg; have hnb9 := NB416_411.out; have hnc9 := NB411_416.out; have hnb10 := NB416_0.out; have hnc10 := NB0_416.out; have hcz11_0 : w8.cell? ⟨gb416, 0, none⟩ = some (.int .i64 0) := (blk_cell BK416.out 0).trans rfl; have hcz11_1 : w8.cell? ⟨gb416, 1, none⟩ = some (.int .i64 0) := (blk_cell BK416.out 1).trans rfl; have hfz11_0 := blk_frozen BK416.out 0; have hfz11_1 := blk_frozen BK416.out 1) | ((with_reducible refine gate_callee (f := 125) rfl ?_); refine goesL_ (some 7) rfl rfl Try.func125 z8_22 rfl #[.pointer (some ⟨g, 0, none⟩), .int .i64 10] rfl z8_1 ?_; (with_reducible refine (spec_l01Below.calls g s0_0 t414 t415 10 t417 t418 t419 w0 _ ?side1 ?side2 A3.out).mono ?_); (case side1 => repeat (first | (with_reducible first | exact HI0.out | apply IsS172.alloc | apply IsS172.drewN | apply IsS172.drew | apply IsS172.set_1 | apply IsS172.set_2 | refine IsS172.far ?_ NB0_411.out _ | refine IsS172.far ?_ NB0_416.out _) | exact HI0.out)); (case side2 => repeat (first | (with_reducible first | exact HB.out | apply below_alloc | apply pw_below_drewN | apply below_drew1 | refine below_set ?_ (IsS172.ge HI0.out) | refine below_set ?_ GE411.out | refine below_set ?_ GE416.out) | exact HB.out)); rintro e w12 ⟨rfl, hi, hb, hk⟩; refine ⟨_, rfl, ?_⟩; have n0_ := Aside0.mk (KeepBut.blk hk (g' := gb411) (o := .cells #[.int .i64 0, .int .i64 0] 29 (0, 0)) z8_14 NB411_0.out (by simp)); have n1_ := Aside0.mk (KeepBut.blk hk (g' := gb416) (o := .cells #[.int .i64 t412, .int .i64 t413] 29 (0, 0)) z8_11 NB416_0.out (by simp)); have n2_ := Aside0.mk (KeepBut.trans z8_2 hk (.inl rfl)); have n3_ := Aside0.mk (hb); have n4_ := Aside0.mk (hi); clear BK411; clear BK416; clear HK; clear HB; clear HI0; have BK411 := n0_; have BK416 := n1_; have HK := n2_; have HB := n3_; have HI0 := n4_; clear n0_ n1_ n2_ n3_ n4_) | ((with_reducible refine gate_dst (N := 11) rfl ?_); refine Kd.R_lit (Kd.int .i64) _ 3 ?hg (N := 11) ?hd (xs := ([(-1), 3] : List Int)) (inner := [.int .i64 (-1), .int .i64 3]) (ok := fun _ => True) (okp := fun _ => True) ?hr ?hp (fun _ hk => hk) trivial (Below.refl _ _) (Nat.le_refl _) (by simp) ?_; (case hd => rfl); (case hg => rfl); (case hr => first | (go_simp; done) | (go_simp; rfl)); (case hp => exact (Reps.one (show Kd.M (Kd.int .i64) _ _ _ (-1) [.int .i64 (-1)] from rfl) (Reps.one (show Kd.M (Kd.int .i64) _ _ _ 3 [.int .i64 3] from rfl) (Reps.none _ _)))); intro v421 w13 ho14 hb hg_ hnew_; clear hg_ hnew_; (first | rw [← Ny420.out] at ho14 | (simp only [Int.reduceToNat] at ho14; rw [← Ny420.out] at ho14)); have n0_ := Aside0.mk (Kd.R_lower ho14 (keep_size (w := w) (g := g) (row := none) z8_2)); have n1_ := Aside0.mk (IsS172.below z8_8 hb); have n2_ := Aside0.mk (blk_below (g := gb411) (o := .cells #[.int .i64 0, .int .i64 0] 29 (0, 0)) z8_4 hb); have n3_ := Aside0.mk (blk_below (g := gb416) (o := .cells #[.int .i64 t412, .int .i64 t413] 29 (0, 0)) z8_26 hb); have n4_ := Aside0.mk (KeepBut.trans z8_2 (KeepBut.of_below hb g none) (.inl rfl)); have n5_ := Aside0.mk (below_step z8_9 hb); clear HI0; clear BK411; clear BK416; clear HK; clear HB; have HO422 := n0_; have HI0 := n1_; have BK411 := n2_; have BK416 := n3_; have HK := n4_; have HB := n5_; clear n0_ n1_ n2_ n3_ n4_ n5_; clear hb ho14; obtain ⟨Ao15, co15, eo15⟩ := Kd.R_slice HO422.out; subst eo15) | ((with_reducible refine gate_callee (f := 129) rfl ?_); refine goesL_ (some 12) rfl rfl Try.func129 z8_22 rfl #[.pointer (some ⟨g, 0, none⟩), .slice Ao15 y420.length co15] rfl z8_1 ?_; (with_reducible refine (spec_l01PickInt.calls g s0_0 t418 t419 _ _ y420 t423 t424 t425 w0 _ ?side1 ?side2 ?side3 ?side4 ?side5 A5.out).mono ?_); (case side1 => repeat (first | (with_reducible first | exact HI0.out | apply IsS172.alloc | apply IsS172.drewN | apply IsS172.drew | apply IsS172.set_1 | apply IsS172.set_2 | refine IsS172.far ?_ NB0_411.out _ | refine IsS172.far ?_ NB0_416.out _) | exact HI0.out)); (case side2 => repeat (first | (with_reducible first | exact HB.out | apply below_alloc | apply pw_below_drewN | apply below_drew1 | refine below_set ?_ (IsS172.ge HI0.out) | refine below_set ?_ GE411.out | refine below_set ?_ GE416.out) | exact HB.out)); (case side3 => repeat (first | exact (Kd.R_reads' HO422.out).2.2 | (with_reducible refine Kd.C_alloc ?_ _) | (with_reducible refine Kd.C_drewN ?_ _) | (with_reducible refine Kd.C_drew ?_))); (case side4 => exact (Kd.R_reads' HO422.out).2.1); (case side5 => exact far_slice (IsS172.own_ne HI0.out HO422.out (by decide))); rintro e w16 ⟨rfl, hi, hb, hk⟩; refine ⟨_, rfl, ?_⟩; have n0_ := Aside0.mk (KeepBut.blk hk (g' := gb411) (o := .cells #[.int .i64 0, .int .i64 0] 29 (0, 0)) z8_4 NB411_0.out (by simp)); have n1_ := Aside0.mk (KeepBut.blk hk (g' := gb416) (o := .cells #[.int .i64 t412, .int .i64 t413] 29 (0, 0)) z8_26 NB416_0.out (by simp)); have n2_ := Aside0.mk (Kd.R_mono (Kd.R_keep (IsS172.apart (show IsS172 w0 _ g s0_0 t418 t419 from by repeat (first | (with_reducible first | exact HI0.out | apply IsS172.alloc | apply IsS172.drewN | apply IsS172.drew | apply IsS172.set_1 | apply IsS172.set_2 | refine IsS172.far ?_ NB0_411.out _ | refine IsS172.far ?_ NB0_416.out _) | exact HI0.out)) (by (with_reducible repeat (first | apply Kd.R_alloc | apply Kd.R_drewN | apply Kd.R_drew)); exact HO422.out) (by decide)) hk (fun _ h => h.2)) (fun _ h => h.1)); have n3_ := Aside0.mk (KeepBut.trans z8_2 hk (.inl rfl)); have n4_ := Aside0.mk (hb); have n5_ := Aside0.mk (hi); clear BK411; clear BK416; clear HO422; clear HK; clear HB; clear HI0; have BK411 := n0_; have BK416 := n1_; have HO422 := n2_; have HK := n3_; have HB := n4_; have HI0 := n5_; clear n0_ n1_ n2_ n3_ n4_ n5_; have hcz17_0 : w16.cell? ⟨gb416, 0, none⟩ = some (.int .i64 t412) := (blk_cell BK416.out 0).trans rfl; have hcz17_1 : w16.cell? ⟨gb416, 1, none⟩ = some (.int .i64 t413) := (blk_cell BK416.out 1).trans rfl; have hfz17_0 := blk_frozen BK416.out 0; have hfz17_1 := blk_frozen BK416.out 1; have hnb18 := NB411_0.out; have hnc18 := NB0_411.out; have hcz19_0 : w16.cell? ⟨gb411, 0, none⟩ = some (.int .i64 0) := (blk_cell BK411.out 0).trans rfl; have hcz19_1 : w16.cell? ⟨gb411, 1, none⟩ = some (.int .i64 0) := (blk_cell BK411.out 1).trans rfl; have hfz19_0 := blk_frozen BK411.out 0; have hfz19_1 := blk_frozen BK411.out 1))
  refine bodyPost_ret (results_cell_row rfl _ _ gb411 29 #[.int .i64 t423, .int .i64 t413] (0, 0) _ rfl (by (with_reducible repeat (first | refine blk_drewN ?_ _ | refine blk_drew ?_ | refine blk_alloc ?_ _)); refine blk_put (cs := #[.int .i64 t423, .int .i64 0]) ?_ 1 _ rfl; (with_reducible repeat (first | refine blk_drewN ?_ _ | refine blk_drew ?_ | refine blk_alloc ?_ _)); refine blk_put (cs := #[.int .i64 0, .int .i64 0]) ?_ 0 _ rfl; (with_reducible repeat (first | refine blk_drewN ?_ _ | refine blk_drew ?_ | refine blk_alloc ?_ _)); refine blk_far ?_ NB411_416.out _; (with_reducible repeat (first | refine blk_drewN ?_ _ | refine blk_drew ?_ | refine blk_alloc ?_ _)); exact BK411.out) Try.underlying29 rfl z8_22) rfl ?_
  exact ⟨z8_10, z8_8, z8_9, z8_2⟩
 ·
  rw [if_neg c4] at H
  have c4b0 : (t417 == 0) = false := beq_eq_false_iff_ne.mpr c4
  have c4b1 : (t417 != 0) = true := bne_iff_ne.mpr c4
  by_cases c20 : t417 = 1
  ·
   rw [if_pos c20] at H
   have c20b0 : (t417 == 1) = true := beq_iff_eq.mpr c20
   have c20b1 : (t417 != 1) = false := bne_eq_false_iff_eq.mpr c20
   clear c20
   obtain ⟨y426, hy426⟩ : ∃ y_ : List Int, y_ = (([0, 1000, 1001] : List Int)) := ⟨_, rfl⟩
   replace H : ((spec_l01PickInt.f s0_0 t418 t419 y426).bind fun bt429 => (some (t412, bt429.1, bt429.2.1, bt429.2.2))) = some (r1, r2, r3, r4) := by first | (rw [hy426]; with_reducible exact H) | (have H2_ := (Option.bind_some _ _).symm.trans H; rw [hy426]; with_reducible exact H2_) | (have H2_ := (Option.bind_some _ _).symm.trans H; with_reducible exact H2_) | with_reducible exact H | (rw [hy426]; exact H) | exact H
   have Ny426 := Aside0.mk hy426
   clear hy426
   replace H := Option.bind_eq_some_iff.mp H
   obtain ⟨⟨t429, t430, t431⟩, A210, H⟩ := H
   (try dsimp only at H)
   have A21 := Aside0.mk A210
   clear A210
   simp only [Option.some.injEq, Prod.mk.injEq] at H
   obtain ⟨rfl, rfl, rfl, rfl⟩ := H
   go_enter Try.func134, Try.ntmps134
   go_wp2_with (first | ((with_reducible refine gate_dst (N := 2) rfl ?_); refine box_event ?hg (N := 2) ?hd (cs := #[.int .i64 0, .int .i64 0]) (t := 29) ?hr ?_; (case hd => rfl); (case hg => rfl); (case hr => first | (go_simp; done) | (go_simp; rfl)); intro gb411 hg w22 hbox hb; have n0_ := Aside0.mk (IsS172.below z8_5 hb); have n1_ := Aside0.mk (KeepBut.trans z8_0 (KeepBut.of_below hb g none) (.inl rfl)); have n2_ := Aside0.mk (below_step z8_6 hb); have n3_ := Aside0.mk (hbox); have n4_ := Aside0.mk ((by rw [hg]; exact (keep_size (w := w) (g := g) (row := none) z8_0) : w.heap.size ≤ gb411)); have n5_ := Aside0.mk ((Nat.le_trans HW0.out (by rw [hg]; exact (keep_size (w := w) (g := g) (row := none) z8_0) : w.heap.size ≤ gb411) : w0.heap.size ≤ gb411)); have n6_ := Aside0.mk ((by rw [hg]; exact Nat.ne_of_lt (IsS172.lt (show IsS172 w0 _ g s0_0 s0_1 s0_2 from by repeat (first | (with_reducible first | exact HI0.out | apply IsS172.alloc | apply IsS172.drewN | apply IsS172.drew | apply IsS172.set_1 | apply IsS172.set_2) | exact HI0.out))) : g ≠ gb411)); have n7_ := Aside0.mk ((by rw [hg]; exact Nat.ne_of_gt (IsS172.lt (show IsS172 w0 _ g s0_0 s0_1 s0_2 from by repeat (first | (with_reducible first | exact HI0.out | apply IsS172.alloc | apply IsS172.drewN | apply IsS172.drew | apply IsS172.set_1 | apply IsS172.set_2) | exact HI0.out))) : gb411 ≠ g)); clear HI0; clear HK; clear HB; have HI0 := n0_; have HK := n1_; have HB := n2_; have BK411 := n3_; have GW411 := n4_; have GE411 := n5_; have NB0_411 := n6_; have NB411_0 := n7_; clear n0_ n1_ n2_ n3_ n4_ n5_ n6_ n7_; clear hb hbox hg) | ((with_reducible refine gate_callee (f := 159) rfl ?_); refine goesL_ (some 5) rfl rfl Try.func159 z8_22 rfl #[.pointer (some ⟨g, 0, none⟩)] rfl z8_1 ?_; (with_reducible refine (spec_l04Dot.calls g s0_0 s0_1 s0_2 t412 t413 t414 t415 w0 _ ?side1 ?side2 A2.out).mono ?_); (case side1 => repeat (first | (with_reducible first | exact HI0.out | apply IsS172.alloc | apply IsS172.drewN | apply IsS172.drew | apply IsS172.set_1 | apply IsS172.set_2 | refine IsS172.far ?_ NB0_411.out _) | exact HI0.out)); (case side2 => repeat (first | (with_reducible first | exact HB.out | apply below_alloc | apply pw_below_drewN | apply below_drew1 | refine below_set ?_ (IsS172.ge HI0.out) | refine below_set ?_ GE411.out) | exact HB.out)); rintro e w23 ⟨rfl, hi, hb, hk⟩; refine ⟨_, rfl, ?_⟩; have n0_ := Aside0.mk (KeepBut.blk hk (g' := gb411) (o := .cells #[.int .i64 0, .int .i64 0] 29 (0, 0)) z8_4 NB411_0.out (by simp)); have n1_ := Aside0.mk (KeepBut.trans z8_3 hk (.inl rfl)); have n2_ := Aside0.mk (hb); have n3_ := Aside0.mk (hi); clear BK411; clear HK; clear HB; clear HI0; have BK411 := n0_; have HK := n1_; have HB := n2_; have HI0 := n3_; clear n0_ n1_ n2_ n3_) | ((with_reducible refine gate_dst (N := 3) rfl ?_); refine box_event ?hg (N := 3) ?hd (cs := #[.int .i64 0, .int .i64 0]) (t := 29) ?hr ?_; (case hd => rfl); (case hg => rfl); (case hr => first | (go_simp; done) | (go_simp; rfl)); intro gb416 hg w24 hbox hb; have n0_ := Aside0.mk (IsS172.below z8_18 hb); have n1_ := Aside0.mk (blk_below (g := gb411) (o := .cells #[.int .i64 0, .int .i64 0] 29 (0, 0)) z8_4 hb); have n2_ := Aside0.mk (KeepBut.trans z8_3 (KeepBut.of_below hb g none) (.inl rfl)); have n3_ := Aside0.mk (below_step z8_21 hb); have n4_ := Aside0.mk (hbox); have n5_ := Aside0.mk ((by rw [hg]; exact (keep_size (w := w) (g := g) (row := none) z8_3) : w.heap.size ≤ gb416)); have n6_ := Aside0.mk ((Nat.le_trans HW0.out (by rw [hg]; exact (keep_size (w := w) (g := g) (row := none) z8_3) : w.heap.size ≤ gb416) : w0.heap.size ≤ gb416)); have n7_ := Aside0.mk ((by rw [hg]; exact Nat.ne_of_lt (blk_lt (g := gb411) (o := .cells #[.int .i64 0, .int .i64 0] 29 (0, 0)) z8_4) : gb411 ≠ gb416)); have n8_ := Aside0.mk ((by rw [hg]; exact Nat.ne_of_gt (blk_lt (g := gb411) (o := .cells #[.int .i64 0, .int .i64 0] 29 (0, 0)) z8_4) : gb416 ≠ gb411)); have n9_ := Aside0.mk ((by rw [hg]; exact Nat.ne_of_lt (IsS172.lt (show IsS172 w0 _ g s0_0 t414 t415 from by repeat (first | (with_reducible first | exact HI0.out | apply IsS172.alloc | apply IsS172.drewN | apply IsS172.drew | apply IsS172.set_1 | apply IsS172.set_2 | refine IsS172.far ?_ NB0_411.out _) | exact HI0.out))) : g ≠ gb416)); have n10_ := Aside0.mk ((by rw [hg]; exact Nat.ne_of_gt (IsS172.lt (show IsS172 w0 _ g s0_0 t414 t415 from by repeat (first | (with_reducible first | exact HI0.out | apply IsS172.alloc | apply IsS172.drewN | apply IsS172.drew | apply IsS172.set_1 | apply IsS172.set_2 | refine IsS172.far ?_ NB0_411.out _) | exact HI0.out))) : gb416 ≠ g)); clear HI0; clear BK411; clear HK; clear HB; have HI0 := n0_; have BK411 := n1_; have HK := n2_; have HB := n3_; have BK416 := n4_; have GW416 := n5_; have GE416 := n6_; have NB411_416 := n7_; have NB416_411 := n8_; have NB0_416 := n9_; have NB416_0 := n10_; clear n0_ n1_ n2_ n3_ n4_ n5_ n6_ n7_ n8_ n9_ n10_; clear hb hbox hg; have hnb25 := NB416_411.out; have hnc25 := NB411_416.out; have hnb26 := NB416_0.out; have hnc26 := NB0_416.out; have hcz27_0 : w24.cell? ⟨gb416, 0, none⟩ = some (.int .i64 0) := (blk_cell BK416.out 0).trans rfl; have hcz27_1 : w24.cell? ⟨gb416, 1, none⟩ = some (.int .i64 0) := (blk_cell BK416.out 1).trans rfl; have hfz27_0 := blk_frozen BK416.out 0; have hfz27_1 := blk_frozen BK416.out 1) | ((with_reducible refine gate_callee (f := 125) rfl ?_); refine goesL_ (some 7) rfl rfl Try.func125 z8_22 rfl #[.pointer (some ⟨g, 0, none⟩), .int .i64 10] rfl z8_1 ?_; (with_reducible refine (spec_l01Below.calls g s0_0 t414 t415 10 t417 t418 t419 w0 _ ?side1 ?side2 A3.out).mono ?_); (case side1 => repeat (first | (with_reducible first | exact HI0.out | apply IsS172.alloc | apply IsS172.drewN | apply IsS172.drew | apply IsS172.set_1 | apply IsS172.set_2 | refine IsS172.far ?_ NB0_411.out _ | refine IsS172.far ?_ NB0_416.out _) | exact HI0.out)); (case side2 => repeat (first | (with_reducible first | exact HB.out | apply below_alloc | apply pw_below_drewN | apply below_drew1 | refine below_set ?_ (IsS172.ge HI0.out) | refine below_set ?_ GE411.out | refine below_set ?_ GE416.out) | exact HB.out)); rintro e w28 ⟨rfl, hi, hb, hk⟩; refine ⟨_, rfl, ?_⟩; have n0_ := Aside0.mk (KeepBut.blk hk (g' := gb411) (o := .cells #[.int .i64 0, .int .i64 0] 29 (0, 0)) z8_14 NB411_0.out (by simp)); have n1_ := Aside0.mk (KeepBut.blk hk (g' := gb416) (o := .cells #[.int .i64 t412, .int .i64 t413] 29 (0, 0)) z8_11 NB416_0.out (by simp)); have n2_ := Aside0.mk (KeepBut.trans z8_2 hk (.inl rfl)); have n3_ := Aside0.mk (hb); have n4_ := Aside0.mk (hi); clear BK411; clear BK416; clear HK; clear HB; clear HI0; have BK411 := n0_; have BK416 := n1_; have HK := n2_; have HB := n3_; have HI0 := n4_; clear n0_ n1_ n2_ n3_ n4_) | ((with_reducible refine gate_dst (N := 17) rfl ?_); refine Kd.R_lit (Kd.int .i64) _ 3 ?hg (N := 17) ?hd (xs := ([0, 1000, 1001] : List Int)) (inner := [.int .i64 0, .int .i64 1000, .int .i64 1001]) (ok := fun _ => True) (okp := fun _ => True) ?hr ?hp (fun _ hk => hk) trivial (Below.refl _ _) (Nat.le_refl _) (by simp) ?_; (case hd => rfl); (case hg => rfl); (case hr => first | (go_simp; done) | (go_simp; rfl)); (case hp => exact (Reps.one (show Kd.M (Kd.int .i64) _ _ _ 0 [.int .i64 0] from rfl) (Reps.one (show Kd.M (Kd.int .i64) _ _ _ 1000 [.int .i64 1000] from rfl) (Reps.one (show Kd.M (Kd.int .i64) _ _ _ 1001 [.int .i64 1001] from rfl) (Reps.none _ _))))); intro v427 w29 ho30 hb hg_ hnew_; clear hg_ hnew_; (first | rw [← Ny426.out] at ho30 | (simp only [Int.reduceToNat] at ho30; rw [← Ny426.out] at ho30)); have n0_ := Aside0.mk (Kd.R_lower ho30 (keep_size (w := w) (g := g) (row := none) z8_2)); have n1_ := Aside0.mk (IsS172.below z8_8 hb); have n2_ := Aside0.mk (blk_below (g := gb411) (o := .cells #[.int .i64 0, .int .i64 0] 29 (0, 0)) z8_4 hb); have n3_ := Aside0.mk (blk_below (g := gb416) (o := .cells #[.int .i64 t412, .int .i64 t413] 29 (0, 0)) z8_26 hb); have n4_ := Aside0.mk (KeepBut.trans z8_2 (KeepBut.of_below hb g none) (.inl rfl)); have n5_ := Aside0.mk (below_step z8_9 hb); clear HI0; clear BK411; clear BK416; clear HK; clear HB; have HO428 := n0_; have HI0 := n1_; have BK411 := n2_; have BK416 := n3_; have HK := n4_; have HB := n5_; clear n0_ n1_ n2_ n3_ n4_ n5_; clear hb ho30; obtain ⟨Ao31, co31, eo31⟩ := Kd.R_slice HO428.out; subst eo31) | ((with_reducible refine gate_callee (f := 129) rfl ?_); refine goesL_ (some 18) rfl rfl Try.func129 z8_22 rfl #[.pointer (some ⟨g, 0, none⟩), .slice Ao31 y426.length co31] rfl z8_1 ?_; (with_reducible refine (spec_l01PickInt.calls g s0_0 t418 t419 _ _ y426 t429 t430 t431 w0 _ ?side1 ?side2 ?side3 ?side4 ?side5 A21.out).mono ?_); (case side1 => repeat (first | (with_reducible first | exact HI0.out | apply IsS172.alloc | apply IsS172.drewN | apply IsS172.drew | apply IsS172.set_1 | apply IsS172.set_2 | refine IsS172.far ?_ NB0_411.out _ | refine IsS172.far ?_ NB0_416.out _) | exact HI0.out)); (case side2 => repeat (first | (with_reducible first | exact HB.out | apply below_alloc | apply pw_below_drewN | apply below_drew1 | refine below_set ?_ (IsS172.ge HI0.out) | refine below_set ?_ GE411.out | refine below_set ?_ GE416.out) | exact HB.out)); (case side3 => repeat (first | exact (Kd.R_reads' HO428.out).2.2 | (with_reducible refine Kd.C_alloc ?_ _) | (with_reducible refine Kd.C_drewN ?_ _) | (with_reducible refine Kd.C_drew ?_))); (case side4 => exact (Kd.R_reads' HO428.out).2.1); (case side5 => exact far_slice (IsS172.own_ne HI0.out HO428.out (by decide))); rintro e w32 ⟨rfl, hi, hb, hk⟩; refine ⟨_, rfl, ?_⟩; have n0_ := Aside0.mk (KeepBut.blk hk (g' := gb411) (o := .cells #[.int .i64 0, .int .i64 0] 29 (0, 0)) z8_4 NB411_0.out (by simp)); have n1_ := Aside0.mk (KeepBut.blk hk (g' := gb416) (o := .cells #[.int .i64 t412, .int .i64 t413] 29 (0, 0)) z8_26 NB416_0.out (by simp)); have n2_ := Aside0.mk (Kd.R_mono (Kd.R_keep (IsS172.apart (show IsS172 w0 _ g s0_0 t418 t419 from by repeat (first | (with_reducible first | exact HI0.out | apply IsS172.alloc | apply IsS172.drewN | apply IsS172.drew | apply IsS172.set_1 | apply IsS172.set_2 | refine IsS172.far ?_ NB0_411.out _ | refine IsS172.far ?_ NB0_416.out _) | exact HI0.out)) (by (with_reducible repeat (first | apply Kd.R_alloc | apply Kd.R_drewN | apply Kd.R_drew)); exact HO428.out) (by decide)) hk (fun _ h => h.2)) (fun _ h => h.1)); have n3_ := Aside0.mk (KeepBut.trans z8_2 hk (.inl rfl)); have n4_ := Aside0.mk (hb); have n5_ := Aside0.mk (hi); clear BK411; clear BK416; clear HO428; clear HK; clear HB; clear HI0; have BK411 := n0_; have BK416 := n1_; have HO428 := n2_; have HK := n3_; have HB := n4_; have HI0 := n5_; clear n0_ n1_ n2_ n3_ n4_ n5_; have hcz33_0 : w32.cell? ⟨gb416, 0, none⟩ = some (.int .i64 t412) := (blk_cell BK416.out 0).trans rfl; have hcz33_1 : w32.cell? ⟨gb416, 1, none⟩ = some (.int .i64 t413) := (blk_cell BK416.out 1).trans rfl; have hfz33_0 := blk_frozen BK416.out 0; have hfz33_1 := blk_frozen BK416.out 1; have hnb34 := NB411_0.out; have hnc34 := NB0_411.out; have hcz35_0 : w32.cell? ⟨gb411, 0, none⟩ = some (.int .i64 0) := (blk_cell BK411.out 0).trans rfl; have hcz35_1 : w32.cell? ⟨gb411, 1, none⟩ = some (.int .i64 0) := (blk_cell BK411.out 1).trans rfl; have hfz35_0 := blk_frozen BK411.out 0; have hfz35_1 := blk_frozen BK411.out 1))
   refine bodyPost_ret (results_cell_row rfl _ _ gb411 29 #[.int .i64 t412, .int .i64 t429] (0, 0) _ rfl (by (with_reducible repeat (first | refine blk_drewN ?_ _ | refine blk_drew ?_ | refine blk_alloc ?_ _)); refine blk_put (cs := #[.int .i64 t412, .int .i64 0]) ?_ 1 _ rfl; (with_reducible repeat (first | refine blk_drewN ?_ _ | refine blk_drew ?_ | refine blk_alloc ?_ _)); refine blk_put (cs := #[.int .i64 0, .int .i64 0]) ?_ 0 _ rfl; (with_reducible repeat (first | refine blk_drewN ?_ _ | refine blk_drew ?_ | refine blk_alloc ?_ _)); refine blk_far ?_ NB411_416.out _; (with_reducible repeat (first | refine blk_drewN ?_ _ | refine blk_drew ?_ | refine blk_alloc ?_ _)); exact BK411.out) Try.underlying29 rfl z8_22) rfl ?_
   exact ⟨z8_10, z8_8, z8_9, z8_2⟩
  ·
   rw [if_neg c20] at H
   have c20b0 : (t417 == 1) = false := beq_eq_false_iff_ne.mpr c20
   have c20b1 : (t417 != 1) = true := bne_iff_ne.mpr c20
   simp only [Option.some.injEq, Prod.mk.injEq] at H
   obtain ⟨rfl, rfl, rfl, rfl⟩ := H
   go_enter Try.func134, Try.ntmps134
   go_wp2_with (first | ((with_reducible refine gate_dst (N := 2) rfl ?_); refine box_event ?hg (N := 2) ?hd (cs := #[.int .i64 0, .int .i64 0]) (t := 29) ?hr ?_; (case hd => rfl); (case hg => rfl); (case hr => first | (go_simp; done) | (go_simp; rfl)); intro gb411 hg w36 hbox hb; have n0_ := Aside0.mk (IsS172.below z8_5 hb); have n1_ := Aside0.mk (KeepBut.trans z8_0 (KeepBut.of_below hb g none) (.inl rfl)); have n2_ := Aside0.mk (below_step z8_6 hb); have n3_ := Aside0.mk (hbox); have n4_ := Aside0.mk ((by rw [hg]; exact (keep_size (w := w) (g := g) (row := none) z8_0) : w.heap.size ≤ gb411)); have n5_ := Aside0.mk ((Nat.le_trans HW0.out (by rw [hg]; exact (keep_size (w := w) (g := g) (row := none) z8_0) : w.heap.size ≤ gb411) : w0.heap.size ≤ gb411)); have n6_ := Aside0.mk ((by rw [hg]; exact Nat.ne_of_lt (IsS172.lt (show IsS172 w0 _ g s0_0 s0_1 s0_2 from by repeat (first | (with_reducible first | exact HI0.out | apply IsS172.alloc | apply IsS172.drewN | apply IsS172.drew | apply IsS172.set_1 | apply IsS172.set_2) | exact HI0.out))) : g ≠ gb411)); have n7_ := Aside0.mk ((by rw [hg]; exact Nat.ne_of_gt (IsS172.lt (show IsS172 w0 _ g s0_0 s0_1 s0_2 from by repeat (first | (with_reducible first | exact HI0.out | apply IsS172.alloc | apply IsS172.drewN | apply IsS172.drew | apply IsS172.set_1 | apply IsS172.set_2) | exact HI0.out))) : gb411 ≠ g)); clear HI0; clear HK; clear HB; have HI0 := n0_; have HK := n1_; have HB := n2_; have BK411 := n3_; have GW411 := n4_; have GE411 := n5_; have NB0_411 := n6_; have NB411_0 := n7_; clear n0_ n1_ n2_ n3_ n4_ n5_ n6_ n7_; clear hb hbox hg) | ((with_reducible refine gate_callee (f := 159) rfl ?_); refine goesL_ (some 5) rfl rfl Try.func159 z8_22 rfl #[.pointer (some ⟨g, 0, none⟩)] rfl z8_1 ?_; (with_reducible refine (spec_l04Dot.calls g s0_0 s0_1 s0_2 t412 t413 t414 t415 w0 _ ?side1 ?side2 A2.out).mono ?_); (case side1 => repeat (first | (with_reducible first | exact HI0.out | apply IsS172.alloc | apply IsS172.drewN | apply IsS172.drew | apply IsS172.set_1 | apply IsS172.set_2 | refine IsS172.far ?_ NB0_411.out _) | exact HI0.out)); (case side2 => repeat (first | (with_reducible first | exact HB.out | apply below_alloc | apply pw_below_drewN | apply below_drew1 | refine below_set ?_ (IsS172.ge HI0.out) | refine below_set ?_ GE411.out) | exact HB.out)); rintro e w37 ⟨rfl, hi, hb, hk⟩; refine ⟨_, rfl, ?_⟩; have n0_ := Aside0.mk (KeepBut.blk hk (g' := gb411) (o := .cells #[.int .i64 0, .int .i64 0] 29 (0, 0)) z8_4 NB411_0.out (by simp)); have n1_ := Aside0.mk (KeepBut.trans z8_3 hk (.inl rfl)); have n2_ := Aside0.mk (hb); have n3_ := Aside0.mk (hi); clear BK411; clear HK; clear HB; clear HI0; have BK411 := n0_; have HK := n1_; have HB := n2_; have HI0 := n3_; clear n0_ n1_ n2_ n3_) | ((with_reducible refine gate_dst (N := 3) rfl ?_); refine box_event ?hg (N := 3) ?hd (cs := #[.int .i64 0, .int .i64 0]) (t := 29) ?hr ?_; (case hd => rfl); (case hg => rfl); (case hr => first | (go_simp; done) | (go_simp; rfl)); intro gb416 hg w38 hbox hb; have n0_ := Aside0.mk (IsS172.below z8_18 hb); have n1_ := Aside0.mk (blk_below (g := gb411) (o := .cells #[.int .i64 0, .int .i64 0] 29 (0, 0)) z8_4 hb); have n2_ := Aside0.mk (KeepBut.trans z8_3 (KeepBut.of_below hb g none) (.inl rfl)); have n3_ := Aside0.mk (below_step z8_21 hb); have n4_ := Aside0.mk (hbox); have n5_ := Aside0.mk ((by rw [hg]; exact (keep_size (w := w) (g := g) (row := none) z8_3) : w.heap.size ≤ gb416)); have n6_ := Aside0.mk ((Nat.le_trans HW0.out (by rw [hg]; exact (keep_size (w := w) (g := g) (row := none) z8_3) : w.heap.size ≤ gb416) : w0.heap.size ≤ gb416)); have n7_ := Aside0.mk ((by rw [hg]; exact Nat.ne_of_lt (blk_lt (g := gb411) (o := .cells #[.int .i64 0, .int .i64 0] 29 (0, 0)) z8_4) : gb411 ≠ gb416)); have n8_ := Aside0.mk ((by rw [hg]; exact Nat.ne_of_gt (blk_lt (g := gb411) (o := .cells #[.int .i64 0, .int .i64 0] 29 (0, 0)) z8_4) : gb416 ≠ gb411)); have n9_ := Aside0.mk ((by rw [hg]; exact Nat.ne_of_lt (IsS172.lt (show IsS172 w0 _ g s0_0 t414 t415 from by repeat (first | (with_reducible first | exact HI0.out | apply IsS172.alloc | apply IsS172.drewN | apply IsS172.drew | apply IsS172.set_1 | apply IsS172.set_2 | refine IsS172.far ?_ NB0_411.out _) | exact HI0.out))) : g ≠ gb416)); have n10_ := Aside0.mk ((by rw [hg]; exact Nat.ne_of_gt (IsS172.lt (show IsS172 w0 _ g s0_0 t414 t415 from by repeat (first | (with_reducible first | exact HI0.out | apply IsS172.alloc | apply IsS172.drewN | apply IsS172.drew | apply IsS172.set_1 | apply IsS172.set_2 | refine IsS172.far ?_ NB0_411.out _) | exact HI0.out))) : gb416 ≠ g)); clear HI0; clear BK411; clear HK; clear HB; have HI0 := n0_; have BK411 := n1_; have HK := n2_; have HB := n3_; have BK416 := n4_; have GW416 := n5_; have GE416 := n6_; have NB411_416 := n7_; have NB416_411 := n8_; have NB0_416 := n9_; have NB416_0 := n10_; clear n0_ n1_ n2_ n3_ n4_ n5_ n6_ n7_ n8_ n9_ n10_; clear hb hbox hg; have hnb39 := NB416_411.out; have hnc39 := NB411_416.out; have hnb40 := NB416_0.out; have hnc40 := NB0_416.out; have hcz41_0 : w38.cell? ⟨gb416, 0, none⟩ = some (.int .i64 0) := (blk_cell BK416.out 0).trans rfl; have hcz41_1 : w38.cell? ⟨gb416, 1, none⟩ = some (.int .i64 0) := (blk_cell BK416.out 1).trans rfl; have hfz41_0 := blk_frozen BK416.out 0; have hfz41_1 := blk_frozen BK416.out 1) | ((with_reducible refine gate_callee (f := 125) rfl ?_); refine goesL_ (some 7) rfl rfl Try.func125 z8_22 rfl #[.pointer (some ⟨g, 0, none⟩), .int .i64 10] rfl z8_1 ?_; (with_reducible refine (spec_l01Below.calls g s0_0 t414 t415 10 t417 t418 t419 w0 _ ?side1 ?side2 A3.out).mono ?_); (case side1 => repeat (first | (with_reducible first | exact HI0.out | apply IsS172.alloc | apply IsS172.drewN | apply IsS172.drew | apply IsS172.set_1 | apply IsS172.set_2 | refine IsS172.far ?_ NB0_411.out _ | refine IsS172.far ?_ NB0_416.out _) | exact HI0.out)); (case side2 => repeat (first | (with_reducible first | exact HB.out | apply below_alloc | apply pw_below_drewN | apply below_drew1 | refine below_set ?_ (IsS172.ge HI0.out) | refine below_set ?_ GE411.out | refine below_set ?_ GE416.out) | exact HB.out)); rintro e w42 ⟨rfl, hi, hb, hk⟩; refine ⟨_, rfl, ?_⟩; have n0_ := Aside0.mk (KeepBut.blk hk (g' := gb411) (o := .cells #[.int .i64 0, .int .i64 0] 29 (0, 0)) z8_14 NB411_0.out (by simp)); have n1_ := Aside0.mk (KeepBut.blk hk (g' := gb416) (o := .cells #[.int .i64 t412, .int .i64 t413] 29 (0, 0)) z8_11 NB416_0.out (by simp)); have n2_ := Aside0.mk (KeepBut.trans z8_2 hk (.inl rfl)); have n3_ := Aside0.mk (hb); have n4_ := Aside0.mk (hi); clear BK411; clear BK416; clear HK; clear HB; clear HI0; have BK411 := n0_; have BK416 := n1_; have HK := n2_; have HB := n3_; have HI0 := n4_; clear n0_ n1_ n2_ n3_ n4_; have hcz43_0 : w42.cell? ⟨gb416, 0, none⟩ = some (.int .i64 t412) := (blk_cell BK416.out 0).trans rfl; have hcz43_1 : w42.cell? ⟨gb416, 1, none⟩ = some (.int .i64 t413) := (blk_cell BK416.out 1).trans rfl; have hfz43_0 := blk_frozen BK416.out 0; have hfz43_1 := blk_frozen BK416.out 1; have hnb44 := NB411_0.out; have hnc44 := NB0_411.out; have hcz45_0 : w42.cell? ⟨gb411, 0, none⟩ = some (.int .i64 0) := (blk_cell BK411.out 0).trans rfl; have hcz45_1 : w42.cell? ⟨gb411, 1, none⟩ = some (.int .i64 0) := (blk_cell BK411.out 1).trans rfl; have hfz45_0 := blk_frozen BK411.out 0; have hfz45_1 := blk_frozen BK411.out 1))
   refine bodyPost_ret (results_cell_row rfl _ _ gb411 29 #[.int .i64 t412, .int .i64 t413] (0, 0) _ rfl (by (with_reducible repeat (first | refine blk_drewN ?_ _ | refine blk_drew ?_ | refine blk_alloc ?_ _)); refine blk_put (cs := #[.int .i64 t412, .int .i64 0]) ?_ 1 _ rfl; (with_reducible repeat (first | refine blk_drewN ?_ _ | refine blk_drew ?_ | refine blk_alloc ?_ _)); refine blk_put (cs := #[.int .i64 0, .int .i64 0]) ?_ 0 _ rfl; (with_reducible repeat (first | refine blk_drewN ?_ _ | refine blk_drew ?_ | refine blk_alloc ?_ _)); exact BK411.out) Try.underlying29 rfl z8_22) rfl ?_
   exact ⟨z8_10, z8_8, z8_9, z8_2⟩
def spec_DrawKnows.f (k : Nat) (l0 : List Int) : Option (List Int × Int × Int) := (spec_l01New.f k l0).bind fun bt433 => ((spec_l04AnyDot.f bt433.1 bt433.2.1 bt433.2.2).bind fun bt437 => ((spec_l04Any.f k bt433.1 bt437.2.2.1 bt437.2.2.2).bind fun bt442 => (some (bt442.1, bt437.1, bt437.2.1))))
set_option maxHeartbeats 8000000 in
set_option maxRecDepth 100000 in
theorem spec_DrawKnows.calls (k : Nat) (A0 : Option Addr) (c0 : Nat) (l0 : List Int) (r1 : List Int) (r2 : Int) (r3 : Int) (w : World) (hr0 : Kd.C (Kd.int .u8) w A0 l0.length l0) (hc0 : l0.length ≤ c0) (h : spec_DrawKnows.f k l0 = some (r1, r2, r3)) :
  Calls Try.prog 70 #[.slice A0 l0.length c0] w fun e w' => ∃ v0_ : Value, e = .returned (.tuple #[v0_, .agg #[.int .i64 r2, .int .i64 r3]]) ∧ Kd.R (Kd.int .i64) 3 w' w.heap.size (fun _ => True) v0_ r1 ∧ Below w.heap.size w w' := by
 have hu29 := Try.underlying29
 have HR0 := Aside0.mk hr0
 have HC0 := Aside0.mk hc0
 clear hr0 hc0
 have HB := Aside0.mk (Below.refl w.heap.size w)
 have H : ((spec_l01New.f k l0).bind fun bt433 => ((spec_l04AnyDot.f bt433.1 bt433.2.1 bt433.2.2).bind fun bt437 => ((spec_l04Any.f k bt433.1 bt437.2.2.1 bt437.2.2.2).bind fun bt442 => (some (bt442.1, bt437.1, bt437.2.1))))) = some (r1, r2, r3) := h
 clear h
 replace H := Option.bind_eq_some_iff.mp H
 obtain ⟨⟨t433, t434, t435⟩, A20, H⟩ := H
 (try dsimp only at H)
 have A2 := Aside0.mk A20
 clear A20
 replace H := Option.bind_eq_some_iff.mp H
 obtain ⟨⟨t437, t438, t439, t440⟩, A30, H⟩ := H
 (try dsimp only at H)
 have A3 := Aside0.mk A30
 clear A30
 replace H := Option.bind_eq_some_iff.mp H
 obtain ⟨⟨t442, t445, t446⟩, A40, H⟩ := H
 (try dsimp only at H)
 have A4 := Aside0.mk A40
 clear A40
 simp only [Option.some.injEq, Prod.mk.injEq] at H
 obtain ⟨rfl, rfl, rfl⟩ := H
 go_enter Try.func70, Try.ntmps70
 try go_wp2_with (first | ((with_reducible refine gate_dst (N := 3) rfl ?_); refine box_event ?hg (N := 3) ?hd (cs := #[.int .i64 0, .int .i64 0]) (t := 29) ?hr ?_; (case hd => rfl); (case hg => rfl); (case hr => first | (go_simp; done) | (go_simp; rfl)); intro gb432 hg w5 hbox hb; have n0_ := Aside0.mk (below_step z8_7 hb); have n1_ := Aside0.mk (hbox); have n2_ := Aside0.mk ((by rw [hg]; exact (below_size z8_7) : w.heap.size ≤ gb432)); have n3_ := Aside0.mk ((by rw [hg]; exact (below_size z8_7) : w.heap.size ≤ gb432)); clear HB; have HB := n0_; have BK432 := n1_; have GW432 := n2_; have GE432 := n3_; clear n0_ n1_ n2_ n3_; clear hb hbox hg) | ((with_reducible refine gate_callee (f := 123) rfl ?_); refine goesL_ (some 7) rfl rfl Try.func123 z8_22 rfl #[.slice A0 l0.length c0] rfl z8_1 ?_; (with_reducible refine (spec_l01New.calls k _ _ l0 t433 t434 t435 w _ ?side1 ?side2 ?side3 A2.out).mono ?_); (case side1 => repeat (first | (with_reducible first | exact HB.out | apply below_alloc | apply pw_below_drewN | apply below_drew1 | refine below_set ?_ GE432.out) | exact HB.out)); (case side2 => exact HR0.out); (case side3 => exact HC0.out); rintro e w6 ⟨g436, rfl, hi, hb, hb2⟩; refine ⟨_, rfl, ?_⟩; have n0_ := Aside0.mk (blk_below (g := gb432) (o := .cells #[.int .i64 0, .int .i64 0] 29 (0, 0)) z8_12 hb2); have n1_ := Aside0.mk (hb); have n2_ := Aside0.mk (hi); have n3_ := Aside0.mk (IsS172.ne_blk hi (blk_below (g := gb432) (o := .cells #[.int .i64 0, .int .i64 0] 29 (0, 0)) z8_12 hb2) (by decide)); have n4_ := Aside0.mk (Ne.symm (IsS172.ne_blk hi (blk_below (g := gb432) (o := .cells #[.int .i64 0, .int .i64 0] 29 (0, 0)) z8_12 hb2) (by decide))); clear BK432; clear HB; have BK432 := n0_; have HB := n1_; have HI436 := n2_; have NB436_432 := n3_; have NB432_436 := n4_; clear n0_ n1_ n2_ n3_ n4_) | ((with_reducible refine gate_callee (f := 134) rfl ?_); refine goesL_ (some 9) rfl rfl Try.func134 z8_22 rfl #[.pointer (some ⟨g436, 0, none⟩)] rfl z8_1 ?_; (with_reducible refine (spec_l04AnyDot.calls g436 t433 t434 t435 t437 t438 t439 t440 w _ ?side1 ?side2 A3.out).mono ?_); (case side1 => repeat (first | (with_reducible first | exact HI436.out | apply IsS172.alloc | apply IsS172.drewN | apply IsS172.drew | apply IsS172.set_1 | apply IsS172.set_2 | refine IsS172.far ?_ NB436_432.out _) | exact HI436.out)); (case side2 => repeat (first | (with_reducible first | exact HB.out | apply below_alloc | apply pw_below_drewN | apply below_drew1 | refine below_set ?_ (IsS172.ge HI436.out) | refine below_set ?_ GE432.out) | exact HB.out)); rintro e w7 ⟨rfl, hi, hb, hk⟩; refine ⟨_, rfl, ?_⟩; have n0_ := Aside0.mk (KeepBut.blk hk (g' := gb432) (o := .cells #[.int .i64 0, .int .i64 0] 29 (0, 0)) z8_12 NB432_436.out (by simp)); have n1_ := Aside0.mk (hb); have n2_ := Aside0.mk (hi); clear BK432; clear HB; clear HI436; have BK432 := n0_; have HB := n1_; have HI436 := n2_; clear n0_ n1_ n2_) | ((with_reducible refine gate_dst (N := 5) rfl ?_); refine box_event ?hg (N := 5) ?hd (cs := #[.int .i64 0, .int .i64 0]) (t := 29) ?hr ?_; (case hd => rfl); (case hg => rfl); (case hr => first | (go_simp; done) | (go_simp; rfl)); intro gb441 hg w8 hbox hb; have n0_ := Aside0.mk (blk_below (g := gb432) (o := .cells #[.int .i64 0, .int .i64 0] 29 (0, 0)) z8_12 hb); have n1_ := Aside0.mk (IsS172.below (by repeat (first | (with_reducible first | exact HI436.out | apply IsS172.alloc | apply IsS172.drewN | apply IsS172.drew | apply IsS172.set_1 | apply IsS172.set_2 | refine IsS172.far ?_ NB436_432.out _) | exact HI436.out)) hb); have n2_ := Aside0.mk (below_step z8_19 hb); have n3_ := Aside0.mk (hbox); have n4_ := Aside0.mk ((by rw [hg]; exact (below_size z8_19) : w.heap.size ≤ gb441)); have n5_ := Aside0.mk ((by rw [hg]; exact (below_size z8_19) : w.heap.size ≤ gb441)); have n6_ := Aside0.mk ((by rw [hg]; exact Nat.ne_of_lt (blk_lt (g := gb432) (o := .cells #[.int .i64 0, .int .i64 0] 29 (0, 0)) z8_12) : gb432 ≠ gb441)); have n7_ := Aside0.mk ((by rw [hg]; exact Nat.ne_of_gt (blk_lt (g := gb432) (o := .cells #[.int .i64 0, .int .i64 0] 29 (0, 0)) z8_12) : gb441 ≠ gb432)); have n8_ := Aside0.mk ((by rw [hg]; exact Nat.ne_of_lt (IsS172.lt (show IsS172 w _ g436 t433 t439 t440 from by repeat (first | (with_reducible first | exact HI436.out | apply IsS172.alloc | apply IsS172.drewN | apply IsS172.drew | apply IsS172.set_1 | apply IsS172.set_2 | refine IsS172.far ?_ NB436_432.out _) | exact HI436.out))) : g436 ≠ gb441)); have n9_ := Aside0.mk ((by rw [hg]; exact Nat.ne_of_gt (IsS172.lt (show IsS172 w _ g436 t433 t439 t440 from by repeat (first | (with_reducible first | exact HI436.out | apply IsS172.alloc | apply IsS172.drewN | apply IsS172.drew | apply IsS172.set_1 | apply IsS172.set_2 | refine IsS172.far ?_ NB436_432.out _) | exact HI436.out))) : gb441 ≠ g436)); clear BK432; clear HI436; clear HB; have BK432 := n0_; have HI436 := n1_; have HB := n2_; have BK441 := n3_; have GW441 := n4_; have GE441 := n5_; have NB432_441 := n6_; have NB441_432 := n7_; have NB436_441 := n8_; have NB441_436 := n9_; clear n0_ n1_ n2_ n3_ n4_ n5_ n6_ n7_ n8_ n9_; clear hb hbox hg; have hnb9 := NB441_432.out; have hnc9 := NB432_441.out; have hnb10 := NB441_436.out; have hnc10 := NB436_441.out; have hcz11_0 : w8.cell? ⟨gb441, 0, none⟩ = some (.int .i64 0) := (blk_cell BK441.out 0).trans rfl; have hcz11_1 : w8.cell? ⟨gb441, 1, none⟩ = some (.int .i64 0) := (blk_cell BK441.out 1).trans rfl; have hfz11_0 := blk_frozen BK441.out 0; have hfz11_1 := blk_frozen BK441.out 1))
 have n0_ : Aside0 (((w8.setCell ⟨gb441, 0, none⟩ (.int .i64 t437)).setCell ⟨gb441, 1, none⟩ (.int .i64 t438)).heap[gb432]? = some (.cells #[.int .i64 0, .int .i64 0] 29 (0, 0))) := ⟨by (with_reducible repeat (first | refine blk_drewN ?_ _ | refine blk_drew ?_ | refine blk_alloc ?_ _)); refine blk_far ?_ NB432_441.out _; (with_reducible repeat (first | refine blk_drewN ?_ _ | refine blk_drew ?_ | refine blk_alloc ?_ _)); refine blk_far ?_ NB432_441.out _; (with_reducible repeat (first | refine blk_drewN ?_ _ | refine blk_drew ?_ | refine blk_alloc ?_ _)); exact BK432.out⟩
 have n1_ : Aside0 (((w8.setCell ⟨gb441, 0, none⟩ (.int .i64 t437)).setCell ⟨gb441, 1, none⟩ (.int .i64 t438)).heap[gb441]? = some (.cells #[.int .i64 t437, .int .i64 t438] 29 (0, 0))) := ⟨by (with_reducible repeat (first | refine blk_drewN ?_ _ | refine blk_drew ?_ | refine blk_alloc ?_ _)); refine blk_put (cs := #[.int .i64 t437, .int .i64 0]) ?_ 1 _ rfl; (with_reducible repeat (first | refine blk_drewN ?_ _ | refine blk_drew ?_ | refine blk_alloc ?_ _)); refine blk_put (cs := #[.int .i64 0, .int .i64 0]) ?_ 0 _ rfl; (with_reducible repeat (first | refine blk_drewN ?_ _ | refine blk_drew ?_ | refine blk_alloc ?_ _)); exact BK441.out⟩
 have n2_ : Aside0 (IsS172 w ((w8.setCell ⟨gb441, 0, none⟩ (.int .i64 t437)).setCell ⟨gb441, 1, none⟩ (.int .i64 t438)) g436 t433 t439 t440) := ⟨by repeat (first | (with_reducible first | exact HI436.out | apply IsS172.alloc | apply IsS172.drewN | apply IsS172.drew | apply IsS172.set_1 | apply IsS172.set_2 | refine IsS172.far ?_ NB436_432.out _ | refine IsS172.far ?_ NB436_441.out _) | exact HI436.out)⟩
 have n3_ : Aside0 (Below w.heap.size w ((w8.setCell ⟨gb441, 0, none⟩ (.int .i64 t437)).setCell ⟨gb441, 1, none⟩ (.int .i64 t438))) := ⟨z8_17⟩
 (try clear BK432)
 (try clear BK441)
 (try clear HI436)
 (try clear HB)
 generalize ((w8.setCell ⟨gb441, 0, none⟩ (.int .i64 t437)).setCell ⟨gb441, 1, none⟩ (.int .i64 t438)) = w12 at n0_ n1_ n2_ n3_ ⊢
 have BK432 := n0_
 have BK441 := n1_
 have HI436 := n2_
 have HB := n3_
 clear n0_ n1_ n2_ n3_
 have n0_ := Aside0.mk (blk_drew BK432.out)
 have n1_ := Aside0.mk (blk_drew BK441.out)
 have n2_ := Aside0.mk (IsS172.drew HI436.out)
 have n3_ := Aside0.mk (below_drew1 HB.out)
 clear BK432
 clear BK441
 clear HI436
 clear HB
 have BK432 := n0_
 have BK441 := n1_
 have HI436 := n2_
 have HB := n3_
 clear n0_ n1_ n2_ n3_
 refine start_ (n := 5) (S := fun w' => w'.cell? ⟨gb441, 0, none⟩ = some (.int .i64 t437) ∧ w'.cell? ⟨gb441, 1, none⟩ = some (.int .i64 t438)) (ds := []) #[false, false, false, false, false] z8_22 rfl rfl ⟨(blk_cell BK441.out 0).trans rfl, (blk_cell BK441.out 1).trans rfl⟩ (fun hHeld => ?_)
 generalize w12.drew = w13 at BK432 BK441 HI436 HB hHeld ⊢
 refine pure_ (i := 0) (N := some 10) (v := ?_) (a' := ?_) #[true, false, false, false, false] rfl rfl z8_22 (fun _ _ _ h => h) (Or.inl ⟨by rfl, ?_⟩) ?_ ?_
 rotate_left
 ·
  exact (by intro w'; go_simp; with_reducible rfl)
 rotate_left
 ·
  exact z8_27
 refine take_ (i := 2) (N := some 12) (v := ?_) (a' := ?_) #[true, false, true, false, false] rfl rfl z8_22 (fun _ _ _ h => h) (Or.inl ⟨by rfl, ?_⟩) hHeld ?_ ?_
 rotate_left
 ·
  rintro w' ⟨s0, s1⟩
  go_simp
  with_reducible rfl
 rotate_left
 ·
  exact z8_27
 refine one_ (i := 1) (N := some 11) #[true, true, true, false, false] rfl rfl z8_22 (by decide) (fun K hK => ?_)
 refine goes_ Try.func135 z8_22 rfl #[.pointer (some ⟨g436, 0, none⟩)] (by rfl) rfl rfl z8_1 ?_
 with_reducible refine (spec_l04Any.calls k g436 t433 t439 t440 t442 t445 t446 w _ ?side1 ?side2 A4.out).mono ?_
 (case side1 => repeat (first | (with_reducible first | exact HI436.out | apply IsS172.alloc | apply IsS172.drewN | apply IsS172.drew | apply IsS172.set_1 | apply IsS172.set_2 | refine IsS172.far ?_ NB436_432.out _ | refine IsS172.far ?_ NB436_441.out _) | exact HI436.out))
 (case side2 => repeat (first | (with_reducible first | exact HB.out | apply below_alloc | apply pw_below_drewN | apply below_drew1 | refine below_set ?_ (IsS172.ge HI436.out) | refine below_set ?_ GE432.out | refine below_set ?_ GE441.out) | exact HB.out))
 rintro e w14 ⟨v443, rfl, ho0, hi, hb, hk⟩
 refine ⟨_, rfl, ?_⟩
 have n0_ := Aside0.mk (KeepBut.blk hk (g' := gb432) (o := .cells #[.int .i64 0, .int .i64 0] 29 (0, 0)) z8_12 NB432_436.out (by simp))
 have n1_ := Aside0.mk (KeepBut.blk hk (g' := gb441) (o := .cells #[.int .i64 t437, .int .i64 t438] 29 (0, 0)) (by (with_reducible repeat (first | refine blk_drewN ?_ _ | refine blk_drew ?_ | refine blk_alloc ?_ _)); exact BK441.out) NB441_436.out (by simp))
 have n2_ := Aside0.mk (Kd.R_lower ho0 (below_size z8_17))
 have n3_ := Aside0.mk (hb)
 have n4_ := Aside0.mk (hi)
 clear BK432
 clear BK441
 clear HB
 clear HI436
 have BK432 := n0_
 have BK441 := n1_
 have HO444 := n2_
 have HB := n3_
 have HI436 := n4_
 clear n0_ n1_ n2_ n3_ n4_
 (try clear hb)
 (try clear hb2)
 (try clear hk)
 (try clear hi)
 (try clear ho0)
 refine hK.out _ _ ⟨(blk_cell BK441.out 0).trans rfl, (blk_cell BK441.out 1).trans rfl⟩ (fun hHeld => ?_)
 clear hK K
 refine norm_ (a' := ?_) ?_ ?_
 rotate_left
 ·
  show Act.put _ (some 11) _ = _
  simp only [Act.put, List.setIfInBounds_toArray, List.set_cons_zero, List.set_cons_succ, i64_w, i32_w]
  rfl
 refine pure_ (i := 3) (N := some 2) (v := ?_) (a' := ?_) #[true, true, true, true, false] rfl rfl z8_22 (fun _ _ _ h => h) (Or.inl ⟨by rfl, ?_⟩) ?_ ?_
 rotate_left
 ·
  exact (by intro w'; go_simp; with_reducible rfl)
 rotate_left
 ·
  exact z8_27
 refine one_ (i := 4) (N := none) #[true, true, true, true, true] rfl rfl z8_22 (by decide) (fun K hK => ?_)
 have hs15 : w14.cell? ⟨gb432, 0, none⟩ = some (.int .i64 0) := (blk_cell BK432.out 0).trans rfl
 have hfs15 := blk_frozen BK432.out 0
 have hns15_1 := NB441_432.out
 have hms15_1 := NB432_441.out
 have hs16 : w14.cell? ⟨gb432, 1, none⟩ = some (.int .i64 0) := (blk_cell BK432.out 1).trans rfl
 have hfs16 := blk_frozen BK432.out 1
 have hns16_1 := NB441_432.out
 have hms16_1 := NB432_441.out
 refine skip_ (w1 := ?_) (by rfl) rfl ?_ ?_
 rotate_left
 ·
  go_simp
  rfl
 refine hK.out _ _ ⟨((cell_far (p := ⟨gb432, _, none⟩) NB441_432.out _).trans (((cell_far (p := ⟨gb432, _, none⟩) NB441_432.out _).trans (hHeld.1)))), ((cell_far (p := ⟨gb432, _, none⟩) NB441_432.out _).trans (((cell_far (p := ⟨gb432, _, none⟩) NB441_432.out _).trans (hHeld.2))))⟩ (fun hHeld => ?_)
 clear hK K
 refine done_ z8_22 ?_
 try go_wp2
 refine bodyPost_ret (results_tc rfl _ _ gb432 29 #[.int .i64 t437, .int .i64 t438] (0, 0) _ rfl (by (with_reducible repeat (first | refine blk_drewN ?_ _ | refine blk_drew ?_ | refine blk_alloc ?_ _)); refine blk_put (cs := #[.int .i64 t437, .int .i64 0]) ?_ 1 _ rfl; (with_reducible repeat (first | refine blk_drewN ?_ _ | refine blk_drew ?_ | refine blk_alloc ?_ _)); refine blk_put (cs := #[.int .i64 0, .int .i64 0]) ?_ 0 _ rfl; (with_reducible repeat (first | refine blk_drewN ?_ _ | refine blk_drew ?_ | refine blk_alloc ?_ _)); exact BK432.out) Try.underlying29 rfl z8_22) rfl ?_
 exact ⟨_, z8_10, by (with_reducible repeat (first | apply Kd.R_alloc | apply Kd.R_drewN | apply Kd.R_drew)); exact Kd.R_mono (Kd.R_far (p := ⟨gb432, 1, none⟩) (Kd.R_far (p := ⟨gb432, 0, none⟩) (Kd.R_types HO444.out BK432.out (by decide)) (fun _ hk => by first | exact hk.2 | trivial) (.int .i64 t437)) (fun _ hk => by first | exact hk.2 | trivial) (.int .i64 t438)) (fun _ hk => trivial), z8_17⟩
def spec_DrawDotOk.f (k : Nat) (l0 : List Int) : Option (Int × Int) := (spec_l01New.f k l0).bind fun bt448 => ((spec_l04AnyDot.f bt448.1 bt448.2.1 bt448.2.2).bind fun bt452 => (some (bt452.1, bt452.2.1)))
set_option maxHeartbeats 8000000 in
set_option maxRecDepth 100000 in
theorem spec_DrawDotOk.calls (k : Nat) (A0 : Option Addr) (c0 : Nat) (l0 : List Int) (r1 : Int) (r2 : Int) (w : World) (hr0 : Kd.C (Kd.int .u8) w A0 l0.length l0) (hc0 : l0.length ≤ c0) (h : spec_DrawDotOk.f k l0 = some (r1, r2)) :
  Calls Try.prog 71 #[.slice A0 l0.length c0] w fun e w' => e = .returned (.agg #[.int .i64 r1, .int .i64 r2]) ∧ Below w.heap.size w w' := by
 have hu29 := Try.underlying29
 have HR0 := Aside0.mk hr0
 have HC0 := Aside0.mk hc0
 clear hr0 hc0
 have HB := Aside0.mk (Below.refl w.heap.size w)
 have H : ((spec_l01New.f k l0).bind fun bt448 => ((spec_l04AnyDot.f bt448.1 bt448.2.1 bt448.2.2).bind fun bt452 => (some (bt452.1, bt452.2.1)))) = some (r1, r2) := h
 clear h
 replace H := Option.bind_eq_some_iff.mp H
 obtain ⟨⟨t448, t449, t450⟩, A20, H⟩ := H
 (try dsimp only at H)
 have A2 := Aside0.mk A20
 clear A20
 replace H := Option.bind_eq_some_iff.mp H
 obtain ⟨⟨t452, t453, t454, t455⟩, A30, H⟩ := H
 (try dsimp only at H)
 have A3 := Aside0.mk A30
 clear A30
 simp only [Option.some.injEq, Prod.mk.injEq] at H
 obtain ⟨rfl, rfl⟩ := H
 go_enter Try.func71, Try.ntmps71
 go_wp2_with (first | ((with_reducible refine gate_dst (N := 2) rfl ?_); refine box_event ?hg (N := 2) ?hd (cs := #[.int .i64 0, .int .i64 0]) (t := 29) ?hr ?_; (case hd => rfl); (case hg => rfl); (case hr => first | (go_simp; done) | (go_simp; rfl)); intro gb447 hg w4 hbox hb; have n0_ := Aside0.mk (below_step z8_7 hb); have n1_ := Aside0.mk (hbox); have n2_ := Aside0.mk ((by rw [hg]; exact (below_size z8_7) : w.heap.size ≤ gb447)); have n3_ := Aside0.mk ((by rw [hg]; exact (below_size z8_7) : w.heap.size ≤ gb447)); clear HB; have HB := n0_; have BK447 := n1_; have GW447 := n2_; have GE447 := n3_; clear n0_ n1_ n2_ n3_; clear hb hbox hg) | ((with_reducible refine gate_callee (f := 123) rfl ?_); refine goesL_ (some 4) rfl rfl Try.func123 z8_22 rfl #[.slice A0 l0.length c0] rfl z8_1 ?_; (with_reducible refine (spec_l01New.calls k _ _ l0 t448 t449 t450 w _ ?side1 ?side2 ?side3 A2.out).mono ?_); (case side1 => repeat (first | (with_reducible first | exact HB.out | apply below_alloc | apply pw_below_drewN | apply below_drew1 | refine below_set ?_ GE447.out) | exact HB.out)); (case side2 => exact HR0.out); (case side3 => exact HC0.out); rintro e w5 ⟨g451, rfl, hi, hb, hb2⟩; refine ⟨_, rfl, ?_⟩; have n0_ := Aside0.mk (blk_below (g := gb447) (o := .cells #[.int .i64 0, .int .i64 0] 29 (0, 0)) z8_25 hb2); have n1_ := Aside0.mk (hb); have n2_ := Aside0.mk (hi); have n3_ := Aside0.mk (IsS172.ne_blk hi (blk_below (g := gb447) (o := .cells #[.int .i64 0, .int .i64 0] 29 (0, 0)) z8_25 hb2) (by decide)); have n4_ := Aside0.mk (Ne.symm (IsS172.ne_blk hi (blk_below (g := gb447) (o := .cells #[.int .i64 0, .int .i64 0] 29 (0, 0)) z8_25 hb2) (by decide))); clear BK447; clear HB; have BK447 := n0_; have HB := n1_; have HI451 := n2_; have NB451_447 := n3_; have NB447_451 := n4_; clear n0_ n1_ n2_ n3_ n4_) | ((with_reducible refine gate_callee (f := 134) rfl ?_); refine goesL_ (some 5) rfl rfl Try.func134 z8_22 rfl #[.pointer (some ⟨g451, 0, none⟩)] rfl z8_1 ?_; (with_reducible refine (spec_l04AnyDot.calls g451 t448 t449 t450 t452 t453 t454 t455 w _ ?side1 ?side2 A3.out).mono ?_); (case side1 => repeat (first | (with_reducible first | exact HI451.out | apply IsS172.alloc | apply IsS172.drewN | apply IsS172.drew | apply IsS172.set_1 | apply IsS172.set_2 | refine IsS172.far ?_ NB451_447.out _) | exact HI451.out)); (case side2 => repeat (first | (with_reducible first | exact HB.out | apply below_alloc | apply pw_below_drewN | apply below_drew1 | refine below_set ?_ (IsS172.ge HI451.out) | refine below_set ?_ GE447.out) | exact HB.out)); rintro e w6 ⟨rfl, hi, hb, hk⟩; refine ⟨_, rfl, ?_⟩; have n0_ := Aside0.mk (KeepBut.blk hk (g' := gb447) (o := .cells #[.int .i64 0, .int .i64 0] 29 (0, 0)) z8_25 NB447_451.out (by simp)); have n1_ := Aside0.mk (hb); have n2_ := Aside0.mk (hi); clear BK447; clear HB; clear HI451; have BK447 := n0_; have HB := n1_; have HI451 := n2_; clear n0_ n1_ n2_; have hnb7 := NB447_451.out; have hnc7 := NB451_447.out; have hcz8_0 : w6.cell? ⟨gb447, 0, none⟩ = some (.int .i64 0) := (blk_cell BK447.out 0).trans rfl; have hcz8_1 : w6.cell? ⟨gb447, 1, none⟩ = some (.int .i64 0) := (blk_cell BK447.out 1).trans rfl; have hfz8_0 := blk_frozen BK447.out 0; have hfz8_1 := blk_frozen BK447.out 1))
 refine bodyPost_ret (results_cell_row rfl _ _ gb447 29 #[.int .i64 t452, .int .i64 t453] (0, 0) _ rfl (by (with_reducible repeat (first | refine blk_drewN ?_ _ | refine blk_drew ?_ | refine blk_alloc ?_ _)); refine blk_put (cs := #[.int .i64 t452, .int .i64 0]) ?_ 1 _ rfl; (with_reducible repeat (first | refine blk_drewN ?_ _ | refine blk_drew ?_ | refine blk_alloc ?_ _)); refine blk_put (cs := #[.int .i64 0, .int .i64 0]) ?_ 0 _ rfl; (with_reducible repeat (first | refine blk_drewN ?_ _ | refine blk_drew ?_ | refine blk_alloc ?_ _)); exact BK447.out) Try.underlying29 rfl z8_22) rfl ?_
 exact ⟨z8_10, by repeat (first | (with_reducible first | exact HB.out | apply below_alloc | apply pw_below_drewN | apply below_drew1 | refine below_set ?_ (IsS172.ge HI451.out) | refine below_set ?_ GE447.out) | exact HB.out)⟩
mutual
def impl_KnowIn.j0 : Nat → List Int → List Int → Bool → Option (Bool)
  | 0, _, _, _ => none
  | k + 1, x0, x1, x14 => if x14 = true then (some false) else (impl_KnowIn.l0 k x1 x0 (x0.length : Int) 0)
def impl_KnowIn.l0 : Nat → List Int → List Int → Int → Int → Option (Bool)
  | 0, _, _, _, _ => none
  | k + 1, x1, x15, x16, x17 => if x17 < x16 then (if 0 ≤ x17 then (if x17 < (x15.length : Int) then (if x17 < (x1.length : Int) then (if (rd x15 x17) > (rd x1 x17) then (some false) else (impl_KnowIn.l0 k x1 x15 x16 (wrap64 (x17 + 1)))) else (none)) else (none)) else (none)) else (some true)
end


def impl_KnowIn.f (k : Nat) (l0 : List Int) (l1 : List Int) : Option (Bool) := (impl_KnowOk.f k l0).bind fun t456 => (if t456 = true then ((impl_KnowOk.f k l1).bind fun t457 => (impl_KnowIn.j0 k l0 l1 (!t457))) else (impl_KnowIn.j0 k l0 l1 true))
set_option maxHeartbeats 8000000 in
set_option maxRecDepth 100000 in
theorem impl_KnowIn.calls (k : Nat) (A0 : Option Addr) (c0 : Nat) (l0 : List Int) (A1 : Option Addr) (c1 : Nat) (l1 : List Int) (r : Bool) (w : World) (hr0 : Kd.C (Kd.int .i64) w A0 l0.length l0) (hc0 : l0.length ≤ c0) (hr1 : Kd.C (Kd.int .i64) w A1 l1.length l1) (hc1 : l1.length ≤ c1) (h : impl_KnowIn.f k l0 l1 = some r) :
  Calls Try.prog 72 #[.slice A0 l0.length c0, .slice A1 l1.length c1] w fun e w' => e = .returned (.bool r) ∧ Drawn0 w w' := by
 have HR0 := Aside0.mk hr0
 have HC0 := Aside0.mk hc0
 clear hr0 hc0
 have HR1 := Aside0.mk hr1
 have HC1 := Aside0.mk hc1
 clear hr1 hc1
 have H : ((impl_KnowOk.f k l0).bind fun t456 => (if t456 = true then ((impl_KnowOk.f k l1).bind fun t457 => (impl_KnowIn.j0 k l0 l1 (!t457))) else (impl_KnowIn.j0 k l0 l1 true))) = some r := h
 clear h
 have HC3 := Aside0.mk H
 clear H
 go_enter Try.func72, Try.ntmps72
 go_upto_region 1 with (fail)
 go_cut [14] (fun v14 wc => ∃ (kq : Nat) (x14_2 : Bool), v14 = .bool x14_2 ∧ Aside0 (impl_KnowIn.j0 kq l0 l1 x14_2 = some r) ∧ Aside0 (kq ≤ k) ∧ Drawn0 w wc)
 case first =>
  have H := HC3.out
  clear HC3
  replace H := Option.bind_eq_some_iff.mp H
  obtain ⟨t456, A40, H⟩ := H
  (try dsimp only at H)
  have A4 := Aside0.mk A40
  clear A40
  by_cases c5 : t456 = true
  ·
   subst c5
   rw [if_pos rfl] at H
   replace H := Option.bind_eq_some_iff.mp H
   obtain ⟨t457, A60, H⟩ := H
   (try dsimp only at H)
   have A6 := Aside0.mk A60
   clear A60
   have H' := Aside0.mk H
   clear H
   go_wp2_with (first | ((with_reducible refine gate_callee (f := 79) rfl ?_); refine goesL_ (some 8) rfl rfl Try.func79 z8_22 rfl #[.slice A0 l0.length c0] rfl z8_1 ?_; (with_reducible refine (impl_KnowOk.calls k _ _ l0 true _ ?side1 ?side2 A4.out).mono ?_); (case side1 => repeat (first | exact HR0.out | (with_reducible refine Kd.C_alloc ?_ _) | (with_reducible refine Kd.C_drewN ?_ _) | (with_reducible refine Kd.C_drew ?_))); (case side2 => exact HC0.out); rintro e w' ⟨rfl, ⟨nd, rfl⟩⟩; refine ⟨_, rfl, ?_⟩) | (go_at_call 79; (with_reducible refine (impl_KnowOk.calls k _ _ l1 t457 _ ?side1 ?side2 A6.out).mono ?_); (case side1 => repeat (first | exact HR1.out | (with_reducible refine Kd.C_alloc ?_ _) | (with_reducible refine Kd.C_drewN ?_ _) | (with_reducible refine Kd.C_drew ?_))); (case side2 => exact HC1.out); rintro e w' ⟨rfl, ⟨nd, rfl⟩⟩))
   go_meet
   case rel => exact ⟨_, (!t457), z8_16, H', ⟨by first | omega | exact Nat.le_refl _⟩, z8_15⟩
  ·
   replace c5 := Bool.eq_false_iff.mpr c5
   subst c5
   rw [if_neg (show ¬ (false = true) by decide)] at H
   have H' := Aside0.mk H
   clear H
   go_wp2_with (first | ((with_reducible refine gate_callee (f := 79) rfl ?_); refine goesL_ (some 8) rfl rfl Try.func79 z8_22 rfl #[.slice A0 l0.length c0] rfl z8_1 ?_; (with_reducible refine (impl_KnowOk.calls k _ _ l0 false _ ?side1 ?side2 A4.out).mono ?_); (case side1 => repeat (first | exact HR0.out | (with_reducible refine Kd.C_alloc ?_ _) | (with_reducible refine Kd.C_drewN ?_ _) | (with_reducible refine Kd.C_drew ?_))); (case side2 => exact HC0.out); rintro e w' ⟨rfl, ⟨nd, rfl⟩⟩; refine ⟨_, rfl, ?_⟩))
   go_meet
   case rel => exact ⟨_, (true), z8_16, H', ⟨by first | omega | exact Nat.le_refl _⟩, z8_15⟩
 case rest =>
  clear HC3
  try clear c1
  try clear p2
  try clear c5
  obtain ⟨kq, x14_2, rfl, HA, HJ2, ⟨mc2, rfl⟩⟩ := hcut
  cases kq with
  | zero => exact absurd HA.out (by simp [impl_KnowIn.j0])
  | succ kj2 =>
   have H := HA.out
   clear HA
   simp only [impl_KnowIn.j0] at H
   by_cases c7 : x14_2 = true
   ·
    subst c7
    rw [if_pos rfl] at H
    obtain rfl := Option.some.inj H
    go_wp2
    go_ret
    exact ⟨z8_16, z8_15⟩
   ·
    replace c7 := Bool.eq_false_iff.mpr c7
    subst c7
    rw [if_neg (show ¬ (false = true) by decide)] at H
    have H' := Aside0.mk H
    clear H
    go_wp2
    go_loopg [17] kj2 (fun kq v17 w' => ∃ (x17_2 : Int), v17 = .int .i64 x17_2 ∧ Aside0 (impl_KnowIn.l0 kq l1 l0 (l0.length : Int) x17_2 = some r) ∧ Aside0 (kq ≤ kj2) ∧ Drawn0 w w')
    case atStart => exact ⟨(0), z8_16, H', ⟨Nat.le_refl _⟩, z8_15⟩
    case round =>
     clear H'
     try clear c1
     try clear c2
     try clear p2
     try clear c5
     try clear c7
     try clear p2
     obtain ⟨x17_2, rfl, HA, HK2, ⟨m2, rfl⟩⟩ := hrel
     cases gk with
     | zero => exact absurd HA.out (by simp [impl_KnowIn.l0])
     | succ k2 =>
      have H := HA.out
      clear HA
      simp only [impl_KnowIn.l0] at H
      by_cases c8 : x17_2 < (l0.length : Int)
      ·
       rw [if_pos c8] at H
       have c8b0 : decide (x17_2 < (l0.length : Int)) = true := decide_eq_true c8
       clear c8
       by_cases c9 : 0 ≤ x17_2
       ·
        rw [if_pos c9] at H
        have c9b0 : decide (0 ≤ x17_2) = true := decide_eq_true c9
        clear c9
        by_cases c10 : x17_2 < (l0.length : Int)
        ·
         rw [if_pos c10] at H
         have c10b0 : decide (x17_2 < (l0.length : Int)) = true := decide_eq_true c10
         clear c10
         by_cases c11 : x17_2 < (l1.length : Int)
         ·
          rw [if_pos c11] at H
          have c11b0 : decide (x17_2 < (l1.length : Int)) = true := decide_eq_true c11
          clear c11
          by_cases c12 : (rd l0 x17_2) > (rd l1 x17_2)
          ·
           rw [if_pos c12] at H
           have c12b0 : decide ((rd l1 x17_2) < (rd l0 x17_2)) = true := decide_eq_true c12
           clear c12
           obtain rfl := Option.some.inj H
           have p458 : 0 ≤ (x17_2 : Int) := of_decide_eq_true z8_13
           have q458 : x17_2 < (l0.length : Int) := of_decide_eq_true z8_13
           obtain ⟨ad458, e458, hx458_0⟩ := Kd.at_int HR0.out x17_2 p458 q458
           cases e458
           replace p458 := eq_true p458
           replace q458 := eq_true q458
           have p459 : 0 ≤ (x17_2 : Int) := of_decide_eq_true z8_13
           have q459 : x17_2 < (l1.length : Int) := of_decide_eq_true z8_13
           obtain ⟨ad459, e459, hx459_0⟩ := Kd.at_int HR1.out x17_2 p459 q459
           cases e459
           replace p459 := eq_true p459
           replace q459 := eq_true q459
           go_wp2
           go_ret
           exact ⟨z8_16, z8_15⟩
          ·
           rw [if_neg c12] at H
           have c12b0 : decide ((rd l1 x17_2) < (rd l0 x17_2)) = false := decide_eq_false c12
           clear c12
           have H' := Aside0.mk H
           clear H
           have p458 : 0 ≤ (x17_2 : Int) := of_decide_eq_true z8_13
           have q458 : x17_2 < (l0.length : Int) := of_decide_eq_true z8_13
           obtain ⟨ad458, e458, hx458_0⟩ := Kd.at_int HR0.out x17_2 p458 q458
           cases e458
           replace p458 := eq_true p458
           replace q458 := eq_true q458
           have p459 : 0 ≤ (x17_2 : Int) := of_decide_eq_true z8_13
           have q459 : x17_2 < (l1.length : Int) := of_decide_eq_true z8_13
           obtain ⟨ad459, e459, hx459_0⟩ := Kd.at_int HR1.out x17_2 p459 q459
           cases e459
           replace p459 := eq_true p459
           replace q459 := eq_true q459
           go_wp2
           go_roundg k2
           case measure => have := HJ2.out; have := HK2.out; omega
           case rel => exact ⟨(wrap64 (x17_2 + 1)), z8_16, H', ⟨by have := HJ2.out; have := HK2.out; omega⟩, z8_15⟩
         ·
          rw [if_neg c11] at H
          exact absurd H (by simp)
        ·
         rw [if_neg c10] at H
         exact absurd H (by simp)
       ·
        rw [if_neg c9] at H
        exact absurd H (by simp)
      ·
       rw [if_neg c8] at H
       have c8b0 : decide (x17_2 < (l0.length : Int)) = false := decide_eq_false c8
       clear c8
       obtain rfl := Option.some.inj H
       go_wp2
       go_ret
       exact ⟨z8_16, z8_15⟩
def laws_sameInts.l0 : Nat → List Int → List Int → Int → Option (Bool)
  | 0, _, _, _ => none
  | k + 1, x0, x1, x5 => if x5 < (x0.length : Int) then (if 0 ≤ x5 then (if x5 < (x1.length : Int) then (if (rd x0 x5) = (rd x1 x5) then (laws_sameInts.l0 k x0 x1 (wrap64 (x5 + 1))) else (some false)) else (none)) else (none)) else (some true)
def laws_sameInts.f (k : Nat) (l0 : List Int) (l1 : List Int) : Option (Bool) := if (l0.length : Int) = (l1.length : Int) then (laws_sameInts.l0 k l0 l1 0) else (some false)
set_option maxHeartbeats 8000000 in
set_option maxRecDepth 100000 in
theorem laws_sameInts.calls (k : Nat) (A0 : Option Addr) (c0 : Nat) (l0 : List Int) (A1 : Option Addr) (c1 : Nat) (l1 : List Int) (r : Bool) (w : World) (hr0 : Kd.C (Kd.int .i64) w A0 l0.length l0) (hc0 : l0.length ≤ c0) (hr1 : Kd.C (Kd.int .i64) w A1 l1.length l1) (hc1 : l1.length ≤ c1) (h : laws_sameInts.f k l0 l1 = some r) :
  Calls Try.prog 73 #[.slice A0 l0.length c0, .slice A1 l1.length c1] w fun e w' => e = .returned (.bool r) ∧ Drawn0 w w' := by
 have HR0 := Aside0.mk hr0
 have HC0 := Aside0.mk hc0
 clear hr0 hc0
 have HR1 := Aside0.mk hr1
 have HC1 := Aside0.mk hc1
 clear hr1 hc1
 have H : (if (l0.length : Int) = (l1.length : Int) then (laws_sameInts.l0 k l0 l1 0) else (some false)) = some r := h
 clear h
 by_cases c3 : (l0.length : Int) = (l1.length : Int)
 ·
  rw [if_pos c3] at H
  have c3b0 : ((l0.length : Int) == (l1.length : Int)) = true := beq_iff_eq.mpr c3
  have c3b1 : ((l0.length : Int) != (l1.length : Int)) = false := bne_eq_false_iff_eq.mpr c3
  have c3b2 : (l0.length == l1.length) = true := by first | simpa using c3 | (simp at c3 ⊢; omega)
  clear c3
  have H' := Aside0.mk H
  clear H
  go_enter Try.func73, Try.ntmps73
  go_wp2
  repeat (go_quiet (fail); try go_wp2)
  go_loopg [5] k (fun kq v5 w' => ∃ (x5_1 : Int), v5 = .int .i64 x5_1 ∧ Aside0 (laws_sameInts.l0 kq l0 l1 x5_1 = some r) ∧ Aside0 (kq ≤ k) ∧ Drawn0 w w')
  case atStart => exact ⟨(0), z8_16, H', ⟨Nat.le_refl _⟩, z8_15⟩
  case round =>
   clear H'
   try clear c1
   try clear p2
   try clear c3
   try clear c3b0
   try clear c3b1
   try clear c3b2
   obtain ⟨x5_1, rfl, HA, HK1, ⟨m1, rfl⟩⟩ := hrel
   cases gk with
   | zero => exact absurd HA.out (by simp [laws_sameInts.l0])
   | succ k1 =>
    have H := HA.out
    clear HA
    simp only [laws_sameInts.l0] at H
    by_cases c4 : x5_1 < (l0.length : Int)
    ·
     rw [if_pos c4] at H
     have c4b0 : decide (x5_1 < (l0.length : Int)) = true := decide_eq_true c4
     clear c4
     by_cases c5 : 0 ≤ x5_1
     ·
      rw [if_pos c5] at H
      have c5b0 : decide (0 ≤ x5_1) = true := decide_eq_true c5
      clear c5
      by_cases c6 : x5_1 < (l1.length : Int)
      ·
       rw [if_pos c6] at H
       have c6b0 : decide (x5_1 < (l1.length : Int)) = true := decide_eq_true c6
       clear c6
       by_cases c7 : (rd l0 x5_1) = (rd l1 x5_1)
       ·
        rw [if_pos c7] at H
        have c7b0 : ((rd l0 x5_1) == (rd l1 x5_1)) = true := beq_iff_eq.mpr c7
        have c7b1 : ((rd l0 x5_1) != (rd l1 x5_1)) = false := bne_eq_false_iff_eq.mpr c7
        clear c7
        have H' := Aside0.mk H
        clear H
        have p460 : 0 ≤ (x5_1 : Int) := of_decide_eq_true z8_13
        have q460 : x5_1 < (l0.length : Int) := of_decide_eq_true z8_13
        obtain ⟨ad460, e460, hx460_0⟩ := Kd.at_int HR0.out x5_1 p460 q460
        cases e460
        replace p460 := eq_true p460
        replace q460 := eq_true q460
        have p461 : 0 ≤ (x5_1 : Int) := of_decide_eq_true z8_13
        have q461 : x5_1 < (l1.length : Int) := of_decide_eq_true z8_13
        obtain ⟨ad461, e461, hx461_0⟩ := Kd.at_int HR1.out x5_1 p461 q461
        cases e461
        replace p461 := eq_true p461
        replace q461 := eq_true q461
        go_wp2
        repeat (go_quiet (fail); try go_wp2)
        go_roundg k1
        case measure => have := HK1.out; omega
        case rel => exact ⟨(wrap64 (x5_1 + 1)), z8_16, H', ⟨by have := HK1.out; omega⟩, z8_15⟩
       ·
        rw [if_neg c7] at H
        have c7b0 : ((rd l0 x5_1) == (rd l1 x5_1)) = false := beq_eq_false_iff_ne.mpr c7
        have c7b1 : ((rd l0 x5_1) != (rd l1 x5_1)) = true := bne_iff_ne.mpr c7
        obtain rfl := Option.some.inj H
        have p460 : 0 ≤ (x5_1 : Int) := of_decide_eq_true z8_13
        have q460 : x5_1 < (l0.length : Int) := of_decide_eq_true z8_13
        obtain ⟨ad460, e460, hx460_0⟩ := Kd.at_int HR0.out x5_1 p460 q460
        cases e460
        replace p460 := eq_true p460
        replace q460 := eq_true q460
        have p461 : 0 ≤ (x5_1 : Int) := of_decide_eq_true z8_13
        have q461 : x5_1 < (l1.length : Int) := of_decide_eq_true z8_13
        obtain ⟨ad461, e461, hx461_0⟩ := Kd.at_int HR1.out x5_1 p461 q461
        cases e461
        replace p461 := eq_true p461
        replace q461 := eq_true q461
        go_wp2
        repeat (go_quiet (fail); try go_wp2)
        go_ret
        exact ⟨z8_16, z8_15⟩
      ·
       rw [if_neg c6] at H
       exact absurd H (by simp)
     ·
      rw [if_neg c5] at H
      exact absurd H (by simp)
    ·
     rw [if_neg c4] at H
     have c4b0 : decide (x5_1 < (l0.length : Int)) = false := decide_eq_false c4
     clear c4
     obtain rfl := Option.some.inj H
     go_wp2
     repeat (go_quiet (fail); try go_wp2)
     go_ret
     exact ⟨z8_16, z8_15⟩
 ·
  rw [if_neg c3] at H
  have c3b0 : ((l0.length : Int) == (l1.length : Int)) = false := beq_eq_false_iff_ne.mpr c3
  have c3b1 : ((l0.length : Int) != (l1.length : Int)) = true := bne_iff_ne.mpr c3
  have c3b2 : (l0.length == l1.length) = false := by first | simpa using c3 | (simp at c3 ⊢; omega)
  obtain rfl := Option.some.inj H
  go_enter Try.func73, Try.ntmps73
  go_wp2
  repeat (go_quiet (fail); try go_wp2)
  go_ret
  exact ⟨z8_16, z8_15⟩
end Go.Proofs.Ytmohbiagcbfkpaa.QDraw
