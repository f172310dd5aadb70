/- Parts of the proof of FnExactDoAll, one behind the other. No condition. -/
import Derived.Test.YtbanogkoaplcdaaGreatVFnExactDoAllM35
namespace Go.Proofs.YtbanogkoaplcdaaGreat.QDa
open Go.RowKit Go.Proofs.YtbanogkoaplcdaaGreat.Auto Go.Proofs.YtbanogkoaplcdaaGreat.Lock Go.Proofs.YtbanogkoaplcdaaGreat.Reg9 Go.Proofs.YtbanogkoaplcdaaGreat.Short Go.Proofs.YtbanogkoaplcdaaGreatW.PrintWords Go.Proofs.YtbanogkoaplcdaaGreatW.PrintLast Go.Proofs.YtbanogkoaplcdaaGreatW.PrintMore
attribute [local go_sem] max2_int min2_int max_two min_two max_three min_three max_four min_four   -- for this text's walks alone
set_option linter.unusedVariables false
set_option linter.unusedSimpArgs false
def impl_withTally.l0 : Nat → List (S90) → Int → Int → ByteArray → Int → Int → Option ((List (S90)))
  | 0, _, _, _, _, _, _ => none
  | k + 1, x0, x3, x9, x552000, x552001, x552002 => if x9 < (x0.length : Int) then (if 0 ≤ x9 then ((impl_compareTallies.f k ((rd_T90 x0 x9).f0) ((rd_T90 x0 x9).f1) ((rd_T90 x0 x9).f2) x552000 x552001 x552002).bind fun t553 => (if t553 < 0 then (impl_withTally.l0 k x0 x3 (wrap64 (x9 + 1)) x552000 x552001 x552002) else (if x9 ≤ (x0.length : Int) then ((some (x0.drop (x9 : Int).toNat : List (S90))).bind fun y554 => (if (y554.length : Int) > 0 then (if 0 < (y554.length : Int) then ((impl_compareTallies.f k ((rd_T90 y554 0).f0) ((rd_T90 y554 0).f1) ((rd_T90 y554 0).f2) x552000 x552001 x552002).bind fun t559 => (if t559 = 0 then (if 1 ≤ (y554.length : Int) then ((some (y554.drop 1 : List (S90))).bind fun y561 => ((some (([] : List (S90)) : List (S90))).bind fun y565 => ((some (x0.take (x9 : Int).toNat : List (S90))).bind fun y568 => (if y565.length + y568.length < 4398046511104 then ((some (y565 ++ y568 : List (S90))).bind fun y572 => ((some (([(⟨x552000, x552001, Int.tmod (wrap64 (((rd_T90 y554 0).f2) + x3)) 1000000⟩ : S90)] : List (S90)) : List (S90))).bind fun y575 => (if y572.length + y575.length < 4398046511104 then ((some (y572 ++ y575 : List (S90))).bind fun y578 => (if y578.length + y561.length < 4398046511104 then (some (y578 ++ y561)) else (none))) else (none)))) else (none))))) else (none)) else ((some (([] : List (S90)) : List (S90))).bind fun y584 => ((some (x0.take (x9 : Int).toNat : List (S90))).bind fun y587 => (if y584.length + y587.length < 4398046511104 then ((some (y584 ++ y587 : List (S90))).bind fun y591 => ((some (([(⟨x552000, x552001, Int.tmod (wrap64 (x552002 + x3)) 1000000⟩ : S90)] : List (S90)) : List (S90))).bind fun y594 => (if y591.length + y594.length < 4398046511104 then ((some (y591 ++ y594 : List (S90))).bind fun y597 => (if y597.length + y554.length < 4398046511104 then (some (y597 ++ y554)) else (none))) else (none)))) else (none)))))) else (none)) else ((some (([] : List (S90)) : List (S90))).bind fun y603 => ((some (x0.take (x9 : Int).toNat : List (S90))).bind fun y606 => (if y603.length + y606.length < 4398046511104 then ((some (y603 ++ y606 : List (S90))).bind fun y610 => ((some (([(⟨x552000, x552001, Int.tmod (wrap64 (x552002 + x3)) 1000000⟩ : S90)] : List (S90)) : List (S90))).bind fun y613 => (if y610.length + y613.length < 4398046511104 then ((some (y610 ++ y613 : List (S90))).bind fun y616 => (if y616.length + y554.length < 4398046511104 then (some (y616 ++ y554)) else (none))) else (none)))) else (none)))))) else (none)))) else (none)) else (if 0 ≤ x9 then (if x9 ≤ (x0.length : Int) then ((some (x0.drop (x9 : Int).toNat : List (S90))).bind fun y622 => (if (y622.length : Int) > 0 then (if 0 < (y622.length : Int) then ((impl_compareTallies.f k ((rd_T90 y622 0).f0) ((rd_T90 y622 0).f1) ((rd_T90 y622 0).f2) x552000 x552001 x552002).bind fun t627 => (if t627 = 0 then (if 1 ≤ (y622.length : Int) then ((some (y622.drop 1 : List (S90))).bind fun y629 => ((some (([] : List (S90)) : List (S90))).bind fun y633 => ((some (x0.take (x9 : Int).toNat : List (S90))).bind fun y636 => (if y633.length + y636.length < 4398046511104 then ((some (y633 ++ y636 : List (S90))).bind fun y640 => ((some (([(⟨x552000, x552001, Int.tmod (wrap64 (((rd_T90 y622 0).f2) + x3)) 1000000⟩ : S90)] : List (S90)) : List (S90))).bind fun y643 => (if y640.length + y643.length < 4398046511104 then ((some (y640 ++ y643 : List (S90))).bind fun y646 => (if y646.length + y629.length < 4398046511104 then (some (y646 ++ y629)) else (none))) else (none)))) else (none))))) else (none)) else ((some (([] : List (S90)) : List (S90))).bind fun y652 => ((some (x0.take (x9 : Int).toNat : List (S90))).bind fun y655 => (if y652.length + y655.length < 4398046511104 then ((some (y652 ++ y655 : List (S90))).bind fun y659 => ((some (([(⟨x552000, x552001, Int.tmod (wrap64 (x552002 + x3)) 1000000⟩ : S90)] : List (S90)) : List (S90))).bind fun y662 => (if y659.length + y662.length < 4398046511104 then ((some (y659 ++ y662 : List (S90))).bind fun y665 => (if y665.length + y622.length < 4398046511104 then (some (y665 ++ y622)) else (none))) else (none)))) else (none)))))) else (none)) else ((some (([] : List (S90)) : List (S90))).bind fun y671 => ((some (x0.take (x9 : Int).toNat : List (S90))).bind fun y674 => (if y671.length + y674.length < 4398046511104 then ((some (y671 ++ y674 : List (S90))).bind fun y678 => ((some (([(⟨x552000, x552001, Int.tmod (wrap64 (x552002 + x3)) 1000000⟩ : S90)] : List (S90)) : List (S90))).bind fun y681 => (if y678.length + y681.length < 4398046511104 then ((some (y678 ++ y681 : List (S90))).bind fun y684 => (if y684.length + y622.length < 4398046511104 then (some (y684 ++ y622)) else (none))) else (none)))) else (none)))))) else (none)) else (none))
def impl_withTally.f (k : Nat) (l0 : List (S90)) (a1 : ByteArray) (a2 : Int) (a3 : Int) : Option ((List (S90))) := impl_withTally.l0 k l0 a3 0 a1 a2 0
def impl_withTally.T3 : Bool × List (List Nat × List Nat) := (true, [([], []), ([], []), ([1], [1]), ([0, 2], [0, 2]), ([3], [3]), ([4], [4]), ([4], [4]), ([5, 6, 4], [4, 5, 6]), ([7, 4], [4, 7]), ([4], [4]), ([8, 9, 4, 4], [4, 8, 9]), ([10, 4], [4, 10]), ([4, 11], [4, 11])])
theorem impl_withTally.tab3 : rtab .any (opsOf Tryz.f62 3) = impl_withTally.T3 := by kernel_rfl
def impl_withTally.T6 : Bool × List (List Nat × List Nat) := (true, [([], []), ([0], [0]), ([1], [1]), ([2], [2]), ([3], [3]), ([4, 3], [3, 4]), ([5, 3], [3, 5]), ([3], [3]), ([6, 7, 3, 3], [3, 6, 7]), ([8, 3], [3, 8]), ([3, 9], [3, 9])])
theorem impl_withTally.tab6 : rtab .any (opsOf Tryz.f62 6) = impl_withTally.T6 := by kernel_rfl
set_option maxHeartbeats 8000000 in
set_option maxRecDepth 100000 in
theorem impl_withTally.calls (k : Nat) (A0 : Option Addr) (c0 : Nat) (l0 : List (S90)) (a1 : ByteArray) (a2 : Int) (a3 : Int) (r : List (S90)) (w : World) (hr0 : Kd.C k90 w A0 l0.length l0) (hc0 : l0.length ≤ c0) (h : impl_withTally.f k l0 a1 a2 a3 = some r) :
  Calls Tryz.prog 62 #[.slice A0 l0.length c0, .string a1, .int .i64 a2, .int .i64 a3] w fun e w' => ∃ v0_ : Value, e = .returned (v0_) ∧ Kd.R k90 90 w' w.heap.size (fun _ => True) v0_ r ∧ Below w.heap.size w w' := by
 have hu90 := Tryz.underlying90
 have HR0 := Aside0.mk hr0
 have HC0 := Aside0.mk hc0
 clear hr0 hc0
 have HB := Aside0.mk (Below.refl w.heap.size w)
 have H' := Aside0.mk h
 clear h
 go_enter Tryz.func62, Tryz.ntmps62
 go_wp2_with (((with_reducible refine gate_dst (N := 10) rfl ?_); refine bx_ (N := 10) ?_; intro g hg w1 hbox hb; have BK := Aside0.mk hbox; have GE := gw_ w zB hg; replace HB := Aside0.mk (below_step zB hb); clear hb hbox hg; have hcz := bc3 BK.out))
 go_loopg [9] k (fun kq v9 w' => ∃ (x9_1 : Int), v9 = .int .i64 x9_1 ∧ Aside0 (impl_withTally.l0 kq l0 a3 x9_1 a1 a2 0 = some r) ∧ Aside0 (kq ≤ k) ∧ Aside0 (w'.heap[g]? = some (.cells #[.string a1, .int .i64 a2, .int .i64 0] 90 (0, 0))) ∧ Aside0 (Below w.heap.size w w'))
 case atStart => exact ⟨0, zR, H', ⟨Nat.le_refl _⟩, ⟨by first | exact bpa3 BK.out | exact bpa2 BK.out | exact bp3_1 (bp3_0 BK.out) | exact BK.out⟩, ⟨zB⟩⟩
 case round =>
  clear H' BK HB hcz
  obtain ⟨x, rfl, HA, HK1, BK, HB⟩ := hrel
  cases gk with
  | zero => exact absurd HA.out (by simp [impl_withTally.l0])
  | succ k1 =>
   have H := HA.out
   clear HA
   simp only [impl_withTally.l0, Int.zero_add] at H
   have hcz := bc3 BK.out
   replace H := ite_lt H
   rcases H with ⟨c, H⟩ | ⟨c, H⟩
   all_goals try
    (with_reducible replace H := ite_le H)
    rcases H with ⟨c', H⟩ | ⟨c', H⟩
    rotate_left
    · exact none_o H
    obtain ⟨ad, e, hx⟩ := at_T90 HR0.out x (of_decide_eq_true c') (of_decide_eq_true c)
    cases e
    have p := eqt c
    have p' := eqt c'
    have hy := cb3 HB.out hx
   repeat' (first
    | ((with_reducible refine none_o H); done)
    | ((with_reducible replace H := ite_t (by with_reducible assumption) H))
    | ((with_reducible replace H := ite_f (by with_reducible assumption) H))
    | ((with_reducible replace H := ite_ng H); rcases H with ⟨⟨_, _, _⟩, H⟩ | ⟨⟨_, _⟩, H⟩)
    | ((with_reducible replace H := bind_d1 H); obtain ⟨y2, Y2, H⟩ := H)
    | ((with_reducible replace H := bind_d H); obtain ⟨y, Y, H⟩ := H)
    | ((with_reducible replace H := ite_n H); obtain ⟨LM, H⟩ := H)
    | ((with_reducible replace H := ite_lt H); rcases H with ⟨c1, H⟩ | ⟨c1, H⟩)
    | ((with_reducible replace H := ite_le H); rcases H with ⟨c1, H⟩ | ⟨c1, H⟩)
    | ((with_reducible replace H := ite_b H); rcases H with ⟨c1, H⟩ | ⟨c1, H⟩ <;> (fail_if_success subst c1))
    | ((with_reducible replace H := ite_ei H); rcases H with ⟨c1, H⟩ | ⟨c1, H⟩)
    | ((with_reducible replace H := ite_es H); rcases H with ⟨c1, H⟩ | ⟨c1, H⟩)
    | ((with_reducible replace H := bind_s H); (try dsimp only at H))
    | ((with_reducible replace H := bind_o H); obtain ⟨t, A, H⟩ := H; (try dsimp only at H)))
   all_goals
    have H' := Aside0.mk H
    clear H
    (try go_wp2)
    refine startk_ ⟨BK.out, HB.out⟩ (fun w_ hHeld => ?_); refine with_tabW impl_withTally.tab3 (B := []) zK (fun HT_ HW_ => ?_)
    clear BK HB hcz
    repeat (first | refine us_ ?_ | refine ps_ ?_ | refine ts_ hHeld ?_ (hv := by intro w' hs; have hc_ := bc3 hs.1; (try have hy_ := cb3 hs.2 hx); go_simp; with_reducible rfl) | (refine oc_ Tryz.func93 (impl_compareTallies.calls _ _ _ _ _ _ _ _ _) zPb ?_; clear hHeld; intro w_ hHeld))
    refine done_ (done_of HT_.out zK) ?_
    have BK := Aside0.mk hHeld.1
    have HB := Aside0.mk hHeld.2
    (try simp only [World.drewN_drewN] at BK HB)
    have hcz := bc3 BK.out
    try
     obtain ⟨A1, c1', hcut, HR1, HC1⟩ := cutf_ (kh := .i64) Tryz.underlying31 info90 HR0.out HC0.out (of_decide_eq_true (by with_reducible assumption)) (of_decide_eq_true (by with_reducible assumption))
     rw [Y.out] at hcut HR1 HC1
    (try go_wp2)
    first
    | (go_roundg k1; (case measure => exact zM); (case rel => exact ⟨_, zR, H', ⟨zM⟩, ⟨BK.out⟩, ⟨zB⟩⟩))
    | (have H := H'.out; obtain rfl := Option.some.inj H; clear H' HT_ HW_ hHeld
       first
       | (have Z : decide (0 < (y.length : Int)) = true := by with_reducible assumption
          obtain ⟨ad1, e1, hz⟩ := at_T90 HR1.out 0 (by decide) (of_decide_eq_true Z); cases e1; clear Z; rw [show (0 : Int).toNat = 0 from rfl, Nat.zero_mul, Addr.add_zero'] at hz)
       | skip
       refine startk_ ⟨BK.out, HB.out⟩ (fun w_ hHeld => ?_); refine with_tabW impl_withTally.tab6 (B := []) zK (fun HT_ HW_ => ?_)
       clear BK HB hcz
       repeat (first | refine us_ ?_ | refine ps_ ?_ | refine ts_ hHeld ?_ (hv := by intro w' hs; have hc_ := bc3 hs.1; (try have hy_ := cb3 hs.2 hz); go_simp; with_reducible rfl) | (refine oc_ Tryz.func93 (impl_compareTallies.calls _ _ _ _ _ _ _ _ _) zPb ?_; clear hHeld; intro w_ hHeld))
       refine done_ (done_of HT_.out zK) ?_
       have BK := Aside0.mk hHeld.1
       have HB := Aside0.mk hHeld.2
       (try simp only [World.drewN_drewN] at BK HB)
       have hcz := bc3 BK.out
       (try have hy := cb3 HB.out hz)
       (try (obtain ⟨A2, c2', hcut2, HR2, HC2⟩ := cutf_ (kh := .i64) (i := 1) Tryz.underlying31 info90 HR1.out HC1.out (by decide) (of_decide_eq_true (by with_reducible assumption)); rw [show (1 : Int).toNat = 1 from rfl, Y2.out] at hcut2 HR2 HC2))
       (try go_wp2)
       refine reg9_ (d := k90) (fun _ _ _ => mk90) (fun _ _ _ _ _ _ h => h) Tryz.underlying31 info90 HR0.out HC0.out (of_decide_eq_true (by with_reducible assumption)) (of_decide_eq_true (by with_reducible assumption)) zB (by first | exact bp3_2 (bp3_2 BK.out) | exact bp3_2 BK.out) (lm4 (of_decide_eq_true (by with_reducible assumption)) (by with_reducible assumption)) (lm7 (ys := l0) (of_decide_eq_true (by with_reducible assumption)) (by with_reducible assumption)) (fun v0 v4 v6 v7 w2 ho hb => ?_)
       have HO := Aside0.mk ho
       replace HB := Aside0.mk hb
       clear ho hb BK hcz
       simp only [Act.put, List.setIfInBounds_toArray, List.set_cons_zero, List.set_cons_succ]
       go_wp2_with ((at_builtin; refine apr_ (d := k90) (fun _ _ _ _ _ _ h => h) Tryz.underlying31 info90 HO.out (Kd.C_below (by first | exact HR2.out | exact HR1.out) zB) zB (below_size zB) (lma (by with_reducible assumption)) ?_; intro v1 w3 ho hb; replace HO := Aside0.mk ho; replace HB := Aside0.mk hb; clear ho hb))
       go_ret
       exact ⟨_, zT, by simpa using HO.out, zB⟩)
end Go.Proofs.YtbanogkoaplcdaaGreat.QDa
