/- Parts of the proof of FnExactDoAll, one behind the other. No condition. -/
import Derived.Test.YtbanogkoaplcdaaGreatVFnExactDoAllM37
namespace Go.Proofs.YtbanogkoaplcdaaGreat.QDa
open Go.RowKit Go.Proofs.YtbanogkoaplcdaaGreat.Auto Go.Proofs.YtbanogkoaplcdaaGreat.Lock Go.Proofs.YtbanogkoaplcdaaGreat.Short Go.Proofs.YtbanogkoaplcdaaGreatW.PrintWords Go.Proofs.YtbanogkoaplcdaaGreatW.PrintLast Go.Proofs.YtbanogkoaplcdaaGreatW.PrintMore
attribute [local go_sem] max2_int min2_int max_two min_two max_three min_three max_four min_four   -- for this text's walks alone
set_option linter.unusedVariables false
set_option linter.unusedSimpArgs false
mutual
def impl_cellsOk.l0 : Nat → List (S96) → List Int → List (S96) → Int → Int → Option (Bool)
  | 0, _, _, _, _, _ => none
  | k + 1, x0, x1, x7, x8, x9 => if x9 < x8 then (if 0 ≤ x9 then (if x9 < (x7.length : Int) then ((impl_Knows.f k x1 ((rd_T96 x7 x9).f1.f0) ((rd_T96 x7 x9).f1.f1)).bind fun t510 => (if t510 = true then ((impl_NameOk.f k ((rd_T96 x7 x9).f0)).bind fun t511 => (if t511 = true then ((impl_within.f ((rd_T96 x7 x9).f4) 0 999999).bind fun t512 => (if t512 = true then ((impl_within.f ((rd_T96 x7 x9).f2) 1 10000).bind fun t513 => (impl_cellsOk.j1 k x0 x1 x9 x7 x8 x9 (!t513) ((rd_T96 x7 x9).f0) ((rd_T96 x7 x9).f1.f0) ((rd_T96 x7 x9).f1.f1) ((rd_T96 x7 x9).f2) ((rd_T96 x7 x9).f3.f0) ((rd_T96 x7 x9).f3.f1) ((rd_T96 x7 x9).f4) ((rd_T96 x7 x9).f5))) else (impl_cellsOk.j1 k x0 x1 x9 x7 x8 x9 true ((rd_T96 x7 x9).f0) ((rd_T96 x7 x9).f1.f0) ((rd_T96 x7 x9).f1.f1) ((rd_T96 x7 x9).f2) ((rd_T96 x7 x9).f3.f0) ((rd_T96 x7 x9).f3.f1) ((rd_T96 x7 x9).f4) ((rd_T96 x7 x9).f5)))) else (impl_cellsOk.j1 k x0 x1 x9 x7 x8 x9 true ((rd_T96 x7 x9).f0) ((rd_T96 x7 x9).f1.f0) ((rd_T96 x7 x9).f1.f1) ((rd_T96 x7 x9).f2) ((rd_T96 x7 x9).f3.f0) ((rd_T96 x7 x9).f3.f1) ((rd_T96 x7 x9).f4) ((rd_T96 x7 x9).f5)))) else (impl_cellsOk.j1 k x0 x1 x9 x7 x8 x9 true ((rd_T96 x7 x9).f0) ((rd_T96 x7 x9).f1.f0) ((rd_T96 x7 x9).f1.f1) ((rd_T96 x7 x9).f2) ((rd_T96 x7 x9).f3.f0) ((rd_T96 x7 x9).f3.f1) ((rd_T96 x7 x9).f4) ((rd_T96 x7 x9).f5)))) else (none)) else (none)) else (some (decide ((x0.length : Int) ≤ 120)))
def impl_cellsOk.j1 : Nat → List (S96) → List Int → Int → List (S96) → Int → Int → Bool → ByteArray → Int → Int → Int → Int → Int → Int → Bool → Option (Bool)
  | 0, _, _, _, _, _, _, _, _, _, _, _, _, _, _, _ => none
  | k + 1, x0, x1, x5, x7, x8, x9, x36, x510000, x510001, x510002, x510003, x510004, x510005, x510006, x510007 => if x36 = true then (some false) else (if x5 > 0 then (if 0 ≤ (wrap64 (x5 - 1)) then (if (wrap64 (x5 - 1)) < (x0.length : Int) then ((impl_compareDots.f k ((rd_T96 x0 (wrap64 (x5 - 1))).f1.f0) ((rd_T96 x0 (wrap64 (x5 - 1))).f1.f1) x510001 x510002).bind fun t515 => (if t515 ≥ 0 then (some false) else (impl_cellsOk.l0 k x0 x1 x7 x8 (wrap64 (x9 + 1))))) else (none)) else (none)) else (impl_cellsOk.l0 k x0 x1 x7 x8 (wrap64 (x9 + 1))))
end


def impl_cellsOk.f (k : Nat) (l0 : List (S96)) (l1 : List Int) : Option (Bool) := impl_cellsOk.l0 k l0 l1 l0 (l0.length : Int) 0
def impl_cellsOk.T6 : Bool × List (List Nat × List Nat) := (true, [([], []), ([0], [0]), ([1], [1]), ([2], [2]), ([2], [2]), ([4, 2], [2, 4]), ([3, 5, 2], [2, 3, 5]), ([6, 2], [2, 6]), ([7, 2], [2, 7]), ([2], [2]), ([9, 2], [2, 9]), ([8, 10, 2, 2], [2, 8, 10]), ([11, 2], [2, 11]), ([2, 12], [2, 12])])
theorem impl_cellsOk.tab6 : rtab .any (opsOf Tryz.f86 6) = impl_cellsOk.T6 := by kernel_rfl
set_option maxHeartbeats 8000000 in
set_option maxRecDepth 100000 in
theorem impl_cellsOk.calls (k : Nat) (A0 : Option Addr) (c0 : Nat) (l0 : List (S96)) (A1 : Option Addr) (c1 : Nat) (l1 : List Int) (r : Bool) (w : World) (hr0 : Kd.C k96 w A0 l0.length l0) (hc0 : l0.length ≤ c0) (hr1 : Kd.C (Kd.int .i64) w A1 l1.length l1) (hc1 : l1.length ≤ c1) (h : impl_cellsOk.f k l0 l1 = some r) :
  Calls Tryz.prog 86 #[.slice A0 l0.length c0, .slice A1 l1.length c1] w fun e w' => e = .returned (.bool r) ∧ Below w.heap.size w w' := by
 have hu96 := Tryz.underlying96
 have hu59 := Tryz.underlying59
 have HR0 := Aside0.mk hr0
 have HC0 := Aside0.mk hc0
 clear hr0 hc0
 have HR1 := Aside0.mk hr1
 have HC1 := Aside0.mk hc1
 clear hr1 hc1
 have HB := Aside0.mk (Below.refl w.heap.size w)
 have H' := Aside0.mk h
 clear h
 go_enter Tryz.func86, Tryz.ntmps86
 go_wp2
 repeat (go_quiet (fail); try go_wp2)
 go_loopg [9] k (fun kq v9 w' => ∃ (x9_1 : Int), v9 = .int .i64 x9_1 ∧ Aside0 (impl_cellsOk.l0 kq l0 l1 l0 (l0.length : Int) x9_1 = some r) ∧ Aside0 (kq ≤ k) ∧ Aside0 (Below w.heap.size w w'))
 case atStart => exact ⟨0, zR, H', ⟨Nat.le_refl _⟩, ⟨zB⟩⟩
 case round =>
  clear H'
  obtain ⟨x9_1, rfl, HA, HK1, HB⟩ := hrel
  cases gk with
  | zero => exact absurd HA.out (by simp [impl_cellsOk.l0])
  | succ k1 =>
   have H := HA.out
   clear HA
   simp only [impl_cellsOk.l0] at H
   replace H := ite_lt H
   rcases H with ⟨c, H⟩ | ⟨c, H⟩
   rotate_left
   ·
    obtain rfl := Option.some.inj H
    go_wp2
    go_ret
    exact ⟨zT, zB⟩
   replace H := ite_le H
   rcases H with ⟨c', H⟩ | ⟨c', H⟩
   rotate_left
   · exact none_o H
   try replace H := ite_t c H
   have HC := Aside0.mk H
   clear H
   obtain ⟨ad, e, hx⟩ := at_T96 HR0.out x9_1 (of_decide_eq_true c') (of_decide_eq_true c)
   cases e
   have p := eqt c
   have p' := eqt c'
   have hy := cb8 HB.out hx
   go_upto_region 4 with (((with_reducible refine gate_dst (N := 6) rfl ?_); refine bx_ (N := 6) ?_; intro g hg w1 hbox hb; have BK := Aside0.mk hbox; have GE := gw_ w zB hg; replace HB := Aside0.mk (below_step zB hb); clear hb hbox hg; have hcz := bc8 BK.out))
   (try simp only [Act.put, List.setIfInBounds_toArray, List.set_cons_zero, List.set_cons_succ])
   go_cut [36] (fun v36 wc => ∃ (kq : Nat) (x36_5 : Bool), v36 = .bool x36_5 ∧ Aside0 (impl_cellsOk.j1 kq l0 l1 x9_1 l0 (l0.length : Int) x9_1 x36_5 ((rd_T96 l0 x9_1).f0) ((rd_T96 l0 x9_1).f1.f0) ((rd_T96 l0 x9_1).f1.f1) ((rd_T96 l0 x9_1).f2) ((rd_T96 l0 x9_1).f3.f0) ((rd_T96 l0 x9_1).f3.f1) ((rd_T96 l0 x9_1).f4) ((rd_T96 l0 x9_1).f5) = some r) ∧ Aside0 (kq ≤ k1) ∧ Aside0 (wc.heap[g]? = some (.cells #[.string ((rd_T96 l0 x9_1).f0), .int .i64 ((rd_T96 l0 x9_1).f1.f0), .int .i64 ((rd_T96 l0 x9_1).f1.f1), .int .i64 ((rd_T96 l0 x9_1).f2), .int .i64 ((rd_T96 l0 x9_1).f3.f0), .int .i64 ((rd_T96 l0 x9_1).f3.f1), .int .i64 ((rd_T96 l0 x9_1).f4), .bool ((rd_T96 l0 x9_1).f5)] 96 (0, 0))) ∧ Aside0 (Below w.heap.size w wc))
   case first =>
    have H := HC.out
    clear HC
    repeat' (first
     | ((with_reducible refine none_o H); done)
     | ((with_reducible replace H := ite_t (by with_reducible assumption) H))
     | ((with_reducible replace H := ite_f (by with_reducible assumption) H))
     | ((with_reducible replace H := ite_lt H); rcases H with ⟨c1, H⟩ | ⟨c1, H⟩)
     | ((with_reducible replace H := ite_le H); rcases H with ⟨c1, H⟩ | ⟨c1, H⟩)
     | ((with_reducible replace H := ite_b H); rcases H with ⟨c1, H⟩ | ⟨c1, H⟩ <;> (fail_if_success subst c1))
     | ((with_reducible replace H := ite_ei H); rcases H with ⟨c1, H⟩ | ⟨c1, H⟩)
     | ((with_reducible replace H := ite_es H); rcases H with ⟨c1, H⟩ | ⟨c1, H⟩)
     | ((with_reducible replace H := bind_s H); (try dsimp only at H))
     | ((with_reducible replace H := bind_o H); obtain ⟨t, A, H⟩ := H; (try dsimp only at H))
     | ((with_reducible replace H := ite_b H); rcases H with ⟨rfl, H⟩ | ⟨rfl, H⟩))
    all_goals
     have H' := Aside0.mk H
     clear H
     have hcz := bc8 BK.out
     go_wp2_with (first
       | (go_at_call 59; (with_reducible refine (impl_Knows.calls _ _ _ _ _ _ _ _ zC zL zA).mono ?_); rintro e w' ⟨rfl, hb⟩; (with_reducible first | replace BK := Aside0.mk (blk_below BK.out hb) | replace BK := Aside0.mk (blk_below (blk_drewN BK.out _) hb) | replace BK := Aside0.mk (blk_below (bpa8 BK.out) hb) | replace BK := Aside0.mk (blk_below (blk_drewN (bpa8 BK.out) _) hb)); have hcz := bc8 BK.out; replace HB := Aside0.mk (below_step zB hb); clear hb)
       | (go_at_call 99; (with_reducible refine (impl_NameOk.calls _ _ _ _ zA).mono ?_); rintro e w' ⟨rfl, ⟨nd, rfl⟩⟩; (try first | exact ⟨rfl, _, World.drewN_drewN _ _ _⟩ | exact ⟨rfl, _, Eq.trans (World.drewN_drewN _ _ _) (congrArg (World.drewN _) (Nat.add_assoc _ _ _))⟩))
       | (go_at_call 89; (with_reducible refine (impl_within.calls _ _ _ _ _ zA).mono ?_); rintro e w' ⟨rfl, ⟨nd, rfl⟩⟩; (try first | exact ⟨rfl, _, World.drewN_drewN _ _ _⟩ | exact ⟨rfl, _, Eq.trans (World.drewN_drewN _ _ _) (congrArg (World.drewN _) (Nat.add_assoc _ _ _))⟩)))
     go_meet
     case rel => exact ⟨_, _, zR, H', ⟨zM⟩, ⟨(by (with_reducible repeat (first | apply bpa8 | refine blk_drewN ?_ _ | refine blk_drew ?_ | refine blk_alloc ?_ _)); first | exact BK.out | (rw [c1]; exact BK.out))⟩, ⟨zB⟩⟩
   case rest =>
    clear HC hx hy hcz p p'
    obtain ⟨kq, b, rfl, HA, HJ, BK, HB⟩ := hcut
    cases kq with
    | zero => exact absurd HA.out (by simp [impl_cellsOk.j1])
    | succ kj =>
     have H := HA.out
     clear HA
     simp only [impl_cellsOk.j1] at H
     replace H := ite_b H
     rcases H with ⟨rfl, H⟩ | ⟨rfl, H⟩
     ·
      obtain rfl := Option.some.inj H
      go_wp2
      repeat (go_quiet (fail); try go_wp2)
      go_ret
      exact ⟨zT, zB⟩
     go_wp2
     refine startk_ ⟨BK.out, HB.out⟩ (fun w_ hHeld => ?_); refine with_tabW impl_cellsOk.tab6 (B := []) zK (fun HT_ HW_ => ?_)
     clear BK HB
     repeat' (first
      | ((with_reducible refine none_o H); done)
      | ((with_reducible replace H := ite_t (by with_reducible assumption) H))
      | ((with_reducible replace H := ite_f (by with_reducible assumption) H))
      | ((with_reducible replace H := el_ (at_T96 HR0.out _) H); obtain ⟨hy, ⟨_, _, _, _⟩, H⟩ := H)
      | ((with_reducible replace H := ite_lt H); rcases H with ⟨c1, H⟩ | ⟨c1, H⟩)
      | ((with_reducible replace H := ite_le H); rcases H with ⟨c1, H⟩ | ⟨c1, H⟩)
      | ((with_reducible replace H := ite_b H); rcases H with ⟨c1, H⟩ | ⟨c1, H⟩ <;> (fail_if_success subst c1))
      | ((with_reducible replace H := ite_ei H); rcases H with ⟨c1, H⟩ | ⟨c1, H⟩)
      | ((with_reducible replace H := ite_es H); rcases H with ⟨c1, H⟩ | ⟨c1, H⟩)
      | ((with_reducible replace H := bind_s H); (try dsimp only at H))
      | ((with_reducible replace H := bind_o H); obtain ⟨t, A, H⟩ := H; (try dsimp only at H))
      | refine us_ ?_ | refine ps_ ?_ | refine ts_ hHeld ?_ (hv := by intro w' hs; have hc_ := bc8 hs.1; (try have hy_ := cb8 hs.2 hy); go_simp; with_reducible rfl)
      | (refine done_ (done_of HT_.out (by kernel_rfl)) ?_; have HB := Aside0.mk hHeld.2; (try simp only [World.drewN_drewN] at HB); (first | (obtain rfl := Option.some.inj H; (try go_wp2); go_ret; exact ⟨rfl, HB.out⟩) | (have H' := Aside0.mk H; clear H; (try go_wp2); go_roundg kj; (case measure => exact zMj); (case rel => exact ⟨_, zR, H', ⟨zMj⟩, ⟨HB.out⟩⟩))))
      | (first
         | refine oc_ Tryz.func94 (impl_compareDots.calls _ _ _ _ _ _ _) zPb ?_
         clear hHeld; intro w_ hHeld)
      | ((with_reducible replace H := ite_b H); rcases H with ⟨rfl, H⟩ | ⟨rfl, H⟩))
end Go.Proofs.YtbanogkoaplcdaaGreat.QDa
