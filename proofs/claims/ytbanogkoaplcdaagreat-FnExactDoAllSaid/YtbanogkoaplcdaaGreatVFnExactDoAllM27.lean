/- Parts of the proof of FnExactDoAll, one behind the other. No condition. -/
import Derived.Test.YtbanogkoaplcdaaGreatVFnExactDoAllM26
import Derived.Test.YtbanogkoaplcdaaGreatVFnExactDoAllM21
namespace Go.Proofs.YtbanogkoaplcdaaGreat.QDa
open Go.RowKit Go.Proofs.YtbanogkoaplcdaaGreat.Auto Go.Proofs.YtbanogkoaplcdaaGreat.Lock Go.Proofs.YtbanogkoaplcdaaGreat.Short Go.Proofs.YtbanogkoaplcdaaGreatW.PrintWords Go.Proofs.YtbanogkoaplcdaaGreatW.PrintLast Go.Proofs.YtbanogkoaplcdaaGreatW.PrintMore
attribute [local go_sem] max2_int min2_int max_two min_two max_three min_three max_four min_four   -- for this text's walks alone
set_option linter.unusedVariables false
set_option linter.unusedSimpArgs false
attribute [local go_sem high] eqA59
mutual
def spec_StateOk.j0 : Nat → Bool → List Int → List (S90) → List (S93) → List (S96) → Option (Bool)
  | 0, _, _, _, _, _ => none
  | k + 1, x28, x190000, x190001, x190002, x190003 => if x28 = true then (some false) else (spec_StateOk.l0 k 0 x190000 x190001 x190002 x190003)
def spec_StateOk.l0 : Nat → Int → List Int → List (S90) → List (S93) → List (S96) → Option (Bool)
  | 0, _, _, _, _, _ => none
  | k + 1, x3, x190000, x190001, x190002, x190003 => if x3 < (x190002.length : Int) then (if 0 ≤ x3 then ((spec_Knows.f k x190000 ((rd_T93 x190002 x3).f4.f0) ((rd_T93 x190002 x3).f4.f1)).bind fun t195 => (if t195 = true then (spec_StateOk.l0 k (wrap64 (x3 + 1)) x190000 x190001 x190002 x190003) else (some false))) else (none)) else (spec_StateOk.l1 k 0 x190000 x190001 x190002 x190003)
def spec_StateOk.l1 : Nat → Int → List Int → List (S90) → List (S93) → List (S96) → Option (Bool)
  | 0, _, _, _, _, _ => none
  | k + 1, x4, x190000, x190001, x190002, x190003 => if x4 < (x190003.length : Int) then (if 0 ≤ x4 then ((spec_Knows.f k x190000 ((rd_T96 x190003 x4).f1.f0) ((rd_T96 x190003 x4).f1.f1)).bind fun t198 => (if t198 = true then (if (((rd_T96 x190003 x4).f3.f0) == 0 && (((rd_T96 x190003 x4).f3.f1) == 0)) = true then (spec_StateOk.l1 k (wrap64 (x4 + 1)) x190000 x190001 x190002 x190003) else ((spec_CellAt.f k x190000 x190001 x190002 x190003 ((rd_T96 x190003 x4).f3.f0) ((rd_T96 x190003 x4).f3.f1)).bind fun t199 => (if t199 < 0 then (some false) else (if 0 ≤ t199 then (if t199 < (x190003.length : Int) then (if ((rd_T96 x190003 t199).f0).toList = ((rd_T96 x190003 x4).f0).toList then (if ((rd_T96 x190003 t199).f2) ≥ ((rd_T96 x190003 x4).f2) then (some false) else (spec_StateOk.l1 k (wrap64 (x4 + 1)) x190000 x190001 x190002 x190003)) else (some false)) else (none)) else (none))))) else (some false))) else (none)) else (some true)
end



def spec_StateOk.f (k : Nat) (l0_0 : List Int) (l0_1 : List (S90)) (l0_2 : List (S93)) (l0_3 : List (S96)) : Option (Bool) := (spec_KnowOk.f k l0_0).bind fun t190 => (if t190 = true then ((spec_l06Tallies.f k l0_1).bind fun t191 => (if t191 = true then ((spec_l06Lives.f k l0_2).bind fun t192 => (if t192 = true then ((spec_l06Cells.f k l0_3).bind fun t193 => (spec_StateOk.j0 k (!t193) l0_0 l0_1 l0_2 l0_3)) else (spec_StateOk.j0 k true l0_0 l0_1 l0_2 l0_3))) else (spec_StateOk.j0 k true l0_0 l0_1 l0_2 l0_3))) else (spec_StateOk.j0 k true l0_0 l0_1 l0_2 l0_3))
def spec_StateOk.T6 : Bool × List (List Nat × List Nat) := (true, [([], []), ([0], [0]), ([], []), ([2], [2]), ([], []), ([3, 4], [3, 4]), ([5], [5]), ([6], [6]), ([1, 7], [1, 7]), ([8], [8])])
theorem spec_StateOk.tab6 : rtab .any (opsOf Tryz.f46 6) = spec_StateOk.T6 := by kernel_rfl
def spec_StateOk.T16 : Bool × List (List Nat × List Nat) := (true, [([], []), ([0], [0]), ([1], [1]), ([2], [2]), ([3, 2], [2, 3]), ([2], [2]), ([4, 5, 2], [2, 4, 5]), ([6, 2], [2, 6]), ([7, 2], [2, 7]), ([2], [2]), ([9, 2], [2, 9]), ([8, 10, 2], [2, 8, 10]), ([2, 11], [2, 11]), ([12, 2], [12]), ([13], [13]), ([14, 13], [13, 14]), ([13], [13]), ([15, 16, 13], [13, 15, 16]), ([17, 13], [13, 17]), ([18, 13], [13, 18]), ([13], [13]), ([20, 13], [13, 20]), ([19, 21, 13], [13, 19, 21]), ([13, 22], [13, 22])])
theorem spec_StateOk.tab16 : rtab .any (opsOf Tryz.f46 16) = spec_StateOk.T16 := by kernel_rfl
set_option maxHeartbeats 8000000 in
set_option maxRecDepth 100000 in
theorem spec_StateOk.calls (k : Nat) (A0_0 : Option Addr) (c0_0 : Nat) (l0_0 : List Int) (A0_1 : Option Addr) (c0_1 : Nat) (l0_1 : List (S90)) (A0_2 : Option Addr) (c0_2 : Nat) (l0_2 : List (S93)) (A0_3 : Option Addr) (c0_3 : Nat) (l0_3 : List (S96)) (r : Bool) (w : World) (hr0_0 : Kd.C (Kd.int .i64) w A0_0 l0_0.length l0_0) (hc0_0 : l0_0.length ≤ c0_0) (hr0_1 : Kd.C k90 w A0_1 l0_1.length l0_1) (hc0_1 : l0_1.length ≤ c0_1) (hr0_2 : Kd.C k93 w A0_2 l0_2.length l0_2) (hc0_2 : l0_2.length ≤ c0_2) (hr0_3 : Kd.C k96 w A0_3 l0_3.length l0_3) (hc0_3 : l0_3.length ≤ c0_3) (h : spec_StateOk.f k l0_0 l0_1 l0_2 l0_3 = some r) :
  Calls Tryz.prog 46 #[.agg #[.slice A0_0 l0_0.length c0_0, .slice A0_1 l0_1.length c0_1, .slice A0_2 l0_2.length c0_2, .slice A0_3 l0_3.length c0_3]] w fun e w' => e = .returned (.bool r) ∧ Below w.heap.size w w' := by
 have hu35 := Tryz.underlying35
 have hu59 := Tryz.underlying59
 have hu96 := Tryz.underlying96
 have HR0_0 := Aside0.mk hr0_0
 have HC0_0 := Aside0.mk hc0_0
 clear hr0_0 hc0_0
 have HR0_1 := Aside0.mk hr0_1
 have HC0_1 := Aside0.mk hc0_1
 clear hr0_1 hc0_1
 have HR0_2 := Aside0.mk hr0_2
 have HC0_2 := Aside0.mk hc0_2
 clear hr0_2 hc0_2
 have HR0_3 := Aside0.mk hr0_3
 have HC0_3 := Aside0.mk hc0_3
 clear hr0_3 hc0_3
 have HB := Aside0.mk (Below.refl w.heap.size w)
 have HC := Aside0.mk h
 clear h
 go_enter Tryz.func46, Tryz.ntmps46
 go_upto_region 1 with (((with_reducible refine gate_dst (N := 1) rfl ?_); refine bx_ (N := 1) ?_; intro g hg w1 hbox hb; have BK := Aside0.mk hbox; have GE := gw_ w zB hg; replace HB := Aside0.mk (below_step zB hb); clear hb hbox hg; have hcz := bc4 BK.out))
 (try simp only [Act.put, List.setIfInBounds_toArray, List.set_cons_zero, List.set_cons_succ])
 go_cut [28] (fun v28 wc => ∃ (kq : Nat) (x28_1 : Bool), v28 = .bool x28_1 ∧ Aside0 (spec_StateOk.j0 kq x28_1 l0_0 l0_1 l0_2 l0_3 = some r) ∧ Aside0 (kq ≤ k) ∧ Aside0 (wc.heap[g]? = some (.cells #[(.slice A0_0 l0_0.length c0_0), (.slice A0_1 l0_1.length c0_1), (.slice A0_2 l0_2.length c0_2), (.slice A0_3 l0_3.length c0_3)] 35 (0, 0))) ∧ Aside0 (Below w.heap.size w wc))
 case first =>
  have H := HC.out
  clear HC
  unfold spec_StateOk.f at H
  repeat' (first
   | ((with_reducible refine none_o H); done)
   | ((with_reducible replace H := ite_t (by with_reducible assumption) H))
   | ((with_reducible replace H := ite_f (by with_reducible assumption) H))
   | ((with_reducible replace H := ite_lt H); rcases H with ⟨c1, H⟩ | ⟨c1, H⟩)
   | ((with_reducible replace H := ite_le H); rcases H with ⟨c1, H⟩ | ⟨c1, H⟩)
   | ((with_reducible replace H := ite_b H); rcases H with ⟨c1, H⟩ | ⟨c1, H⟩ <;> (fail_if_success subst c1))
   | ((with_reducible replace H := ite_ei H); rcases H with ⟨c1, H⟩ | ⟨c1, H⟩)
   | ((with_reducible replace H := ite_es H); rcases H with ⟨c1, H⟩ | ⟨c1, H⟩)
   | ((with_reducible replace H := bind_s H); (try dsimp only at H))
   | ((with_reducible replace H := bind_o H); obtain ⟨t, A, H⟩ := H; (try dsimp only at H))
   | ((with_reducible replace H := ite_b H); rcases H with ⟨rfl, H⟩ | ⟨rfl, H⟩))
  all_goals
   have H' := Aside0.mk H
   clear H
   have hcz := bc4 BK.out
   go_wp2_with (first
     | (go_at_call 71; (with_reducible refine (spec_KnowOk.calls _ _ _ _ _ _ zC zL zA).mono ?_); rintro e w' ⟨rfl, ⟨nd, rfl⟩⟩; (try first | exact ⟨rfl, _, World.drewN_drewN _ _ _⟩ | exact ⟨rfl, _, Eq.trans (World.drewN_drewN _ _ _) (congrArg (World.drewN _) (Nat.add_assoc _ _ _))⟩))
     | (go_at_call 72; (with_reducible refine (spec_l06Tallies.calls _ _ _ _ _ _ zC zL zA).mono ?_); rintro e w' ⟨rfl, hb⟩; (with_reducible first | replace BK := Aside0.mk (blk_below BK.out hb) | replace BK := Aside0.mk (blk_below (blk_drewN BK.out _) hb) | replace BK := Aside0.mk (blk_below (bpa4 BK.out) hb) | replace BK := Aside0.mk (blk_below (blk_drewN (bpa4 BK.out) _) hb)); have hcz := bc4 BK.out; replace HB := Aside0.mk (below_step zB hb); clear hb)
     | (go_at_call 73; (with_reducible refine (spec_l06Lives.calls _ _ _ _ _ _ zC zL zA).mono ?_); rintro e w' ⟨rfl, hb⟩; (with_reducible first | replace BK := Aside0.mk (blk_below BK.out hb) | replace BK := Aside0.mk (blk_below (blk_drewN BK.out _) hb) | replace BK := Aside0.mk (blk_below (bpa4 BK.out) hb) | replace BK := Aside0.mk (blk_below (blk_drewN (bpa4 BK.out) _) hb)); have hcz := bc4 BK.out; replace HB := Aside0.mk (below_step zB hb); clear hb)
     | (go_at_call 74; (with_reducible refine (spec_l06Cells.calls _ _ _ _ _ _ zC zL zA).mono ?_); rintro e w' ⟨rfl, hb⟩; (with_reducible first | replace BK := Aside0.mk (blk_below BK.out hb) | replace BK := Aside0.mk (blk_below (blk_drewN BK.out _) hb) | replace BK := Aside0.mk (blk_below (bpa4 BK.out) hb) | replace BK := Aside0.mk (blk_below (blk_drewN (bpa4 BK.out) _) hb)); have hcz := bc4 BK.out; replace HB := Aside0.mk (below_step zB hb); clear hb))
   go_meet
   case rel => exact ⟨_, _, zR, H', ⟨Nat.le_refl _⟩, ⟨(by (with_reducible repeat (first | apply bpa4 | refine blk_drewN ?_ _ | refine blk_drew ?_ | refine blk_alloc ?_ _)); first | exact BK.out | (rw [c1]; exact BK.out))⟩, ⟨zB⟩⟩
 case rest =>
  clear HC
  obtain ⟨kq, b, rfl, HA, HJ, BK, HB⟩ := hcut
  cases kq with
  | zero => exact absurd HA.out (by simp [spec_StateOk.j0])
  | succ kj =>
   have H := HA.out
   clear HA
   simp only [spec_StateOk.j0] at H
   replace H := ite_b H
   rcases H with ⟨rfl, H⟩ | ⟨rfl, H⟩
   ·
    obtain rfl := Option.some.inj H
    go_wp2
    go_ret
    exact ⟨zT, zB⟩
   have H' := Aside0.mk H
   clear H
   go_wp2
   go_loopg [3] kj (fun kq v3 w' => ∃ (x3_2 : Int), v3 = .int .i64 x3_2 ∧ Aside0 (spec_StateOk.l0 kq x3_2 l0_0 l0_1 l0_2 l0_3 = some r) ∧ Aside0 (kq ≤ kj) ∧ Aside0 (w'.heap[g]? = some (.cells #[(.slice A0_0 l0_0.length c0_0), (.slice A0_1 l0_1.length c0_1), (.slice A0_2 l0_2.length c0_2), (.slice A0_3 l0_3.length c0_3)] 35 (0, 0))) ∧ Aside0 (Below w.heap.size w w'))
   case atStart => exact ⟨0, zR, H', ⟨Nat.le_refl _⟩, ⟨BK.out⟩, ⟨zB⟩⟩
   case round =>
    clear H' BK HB
    obtain ⟨x, rfl, HA, HK2, BK, HB⟩ := hrel
    cases gk with
    | zero => exact absurd HA.out (by simp [spec_StateOk.l0])
    | succ k2 =>
     have H := HA.out
     clear HA
     simp only [spec_StateOk.l0] at H
     have hcz := bc4 BK.out
     replace H := ite_lt H
     rcases H with ⟨c, H⟩ | ⟨c, H⟩
     ·
      replace H := ite_le H
      rcases H with ⟨c', H⟩ | ⟨c', H⟩
      rotate_left
      · exact none_o H
      obtain ⟨ad, e, hx⟩ := at_T93 HR0_2.out x (of_decide_eq_true c') (of_decide_eq_true c)
      cases e
      have p := eqt c
      have p' := eqt c'
      have hy := cb6 HB.out hx
      go_wp2
      refine startk_ ⟨BK.out, HB.out⟩ (fun w_ hHeld => ?_); refine with_tabW spec_StateOk.tab6 (B := []) zK (fun HT_ HW_ => ?_)
      clear BK HB hcz
      repeat' (first
       | ((with_reducible refine none_o H); done)
       | ((with_reducible replace H := ite_t (by with_reducible assumption) H))
       | ((with_reducible replace H := ite_f (by with_reducible assumption) H))
       | ((with_reducible replace H := ite_lt H); rcases H with ⟨c1, H⟩ | ⟨c1, H⟩)
       | ((with_reducible replace H := ite_le H); rcases H with ⟨c1, H⟩ | ⟨c1, H⟩)
       | ((with_reducible replace H := ite_b H); rcases H with ⟨c1, H⟩ | ⟨c1, H⟩ <;> (fail_if_success subst c1))
       | ((with_reducible replace H := ite_ei H); rcases H with ⟨c1, H⟩ | ⟨c1, H⟩)
       | ((with_reducible replace H := ite_es H); rcases H with ⟨c1, H⟩ | ⟨c1, H⟩)
       | ((with_reducible replace H := bind_s H); (try dsimp only at H))
       | ((with_reducible replace H := bind_o H); obtain ⟨t, A, H⟩ := H; (try dsimp only at H))
       | refine us_ ?_ | refine ps_ ?_ | refine ts_ hHeld ?_ (hv := by intro w' hs; have hc_ := bc4 hs.1; (try have hy_ := cb6 hs.2 hx); go_simp; with_reducible rfl)
       | (refine done_ (done_of HT_.out (by kernel_rfl)) ?_; have HB := Aside0.mk hHeld.2; (try simp only [World.drewN_drewN] at HB); (first | (obtain rfl := Option.some.inj H; (try go_wp2); go_ret; exact ⟨rfl, HB.out⟩) | (have H' := Aside0.mk H; clear H; (try go_wp2); go_roundg k2; (case measure => exact zM2); (case rel => exact ⟨_, zR, H', ⟨zM2⟩, ⟨hHeld.1⟩, ⟨HB.out⟩⟩))))
       | (first
          | refine oc_ Tryz.func48 (fun h => spec_Knows.calls _ _ _ _ _ _ _ _ zCr zL h) zPb ?_
          clear hHeld; intro w_ hHeld)
       | ((with_reducible replace H := ite_b H); rcases H with ⟨rfl, H⟩ | ⟨rfl, H⟩))
     have H' := Aside0.mk H
     clear H
     go_wp2
     go_loopg [4] k2 (fun kq v4 w' => ∃ (x4_3 : Int), v4 = .int .i64 x4_3 ∧ Aside0 (spec_StateOk.l1 kq x4_3 l0_0 l0_1 l0_2 l0_3 = some r) ∧ Aside0 (kq ≤ k2) ∧ Aside0 (w'.heap[g]? = some (.cells #[(.slice A0_0 l0_0.length c0_0), (.slice A0_1 l0_1.length c0_1), (.slice A0_2 l0_2.length c0_2), (.slice A0_3 l0_3.length c0_3)] 35 (0, 0))) ∧ Aside0 (Below w.heap.size w w'))
     case atStart => exact ⟨0, zR, H', ⟨Nat.le_refl _⟩, ⟨BK.out⟩, ⟨zB⟩⟩
     case round =>
      clear H' BK HB hcz
      obtain ⟨x, rfl, HA, HK3, BK, HB⟩ := hrel
      cases gk with
      | zero => exact absurd HA.out (by simp [spec_StateOk.l1])
      | succ k3 =>
       have H := HA.out
       clear HA
       simp only [spec_StateOk.l1] at H
       have hcz := bc4 BK.out
       replace H := ite_lt H
       rcases H with ⟨c, H⟩ | ⟨c, H⟩
       rotate_left
       ·
        obtain rfl := Option.some.inj H
        go_wp2
        go_ret
        exact ⟨zT, zB⟩
       replace H := ite_le H
       rcases H with ⟨c', H⟩ | ⟨c', H⟩
       rotate_left
       · exact none_o H
       try replace H := ite_t c H
       obtain ⟨ad, e, hx⟩ := at_T96 HR0_3.out x (of_decide_eq_true c') (of_decide_eq_true c)
       cases e
       have p := eqt c
       have p' := eqt c'
       have hy := cb8 HB.out hx
       repeat' (first
        | ((with_reducible refine none_o H); done)
        | ((with_reducible replace H := ite_t (by with_reducible assumption) H))
        | ((with_reducible replace H := ite_f (by with_reducible assumption) H))
        | ((with_reducible replace H := el_ (at_T96 HR0_3.out _) H); obtain ⟨hy, ⟨_, _, _, _⟩, H⟩ := H)
        | ((with_reducible replace H := ite_lt H); rcases H with ⟨c1, H⟩ | ⟨c1, H⟩)
        | ((with_reducible replace H := ite_le H); rcases H with ⟨c1, H⟩ | ⟨c1, H⟩)
        | ((with_reducible replace H := ite_b H); rcases H with ⟨c1, H⟩ | ⟨c1, H⟩ <;> (fail_if_success subst c1))
        | ((with_reducible replace H := ite_ei H); rcases H with ⟨c1, H⟩ | ⟨c1, H⟩)
        | ((with_reducible replace H := ite_es H); rcases H with ⟨c1, H⟩ | ⟨c1, H⟩)
        | ((with_reducible replace H := bind_s H); (try dsimp only at H))
        | ((with_reducible replace H := bind_o H); obtain ⟨t, A, H⟩ := H; (try dsimp only at H))
        | ((with_reducible replace H := ite_b H); rcases H with ⟨rfl, H⟩ | ⟨rfl, H⟩))
       all_goals
        have H' := Aside0.mk H
        clear H
        (try go_wp2_with (first
          | ((with_reducible refine gate_dst (N := 5) rfl ?_); refine bx_ (N := 5) ?_; intro g2 hg w1 hbox hb; have BK2 := Aside0.mk hbox; have GE2 := gw_ w zB hg; replace HB := Aside0.mk (below_step zB hb); have NB := nb_ BK zKf hg; have NB' := nc_ BK zKf hg; replace BK := bb_ BK zKf hb; clear hb hbox hg; have hn := NB.out; have hn' := NB'.out; have hcz2 := bc8 BK2.out; have hcz := bc4 BK.out)
          | (go_at_call 48; (with_reducible refine (spec_Knows.calls _ _ _ _ _ _ _ _ zC zL zA).mono ?_); rintro e w' ⟨rfl, hb⟩; replace BK := bb_ BK zKf hb; (with_reducible first | replace BK2 := Aside0.mk (blk_below BK2.out hb) | replace BK2 := Aside0.mk (blk_below (blk_drewN BK2.out _) hb) | replace BK2 := Aside0.mk (blk_below (bpa8 BK2.out) hb) | replace BK2 := Aside0.mk (blk_below (blk_drewN (bpa8 BK2.out) _) hb)); have hcz2 := bc8 BK2.out; have hcz := bc4 BK.out; replace HB := Aside0.mk (below_step zB hb); clear hb)
          | (go_at_call 75; (with_reducible refine (spec_CellAt.calls _ _ _ _ _ _ _ _ _ _ _ _ _ _ _ _ _ zC zL zC zL zC zL zC zL zA).mono ?_); rintro e w' ⟨rfl, hb⟩; replace BK := bb_ BK zKf hb; (with_reducible first | replace BK2 := Aside0.mk (blk_below BK2.out hb) | replace BK2 := Aside0.mk (blk_below (blk_drewN BK2.out _) hb) | replace BK2 := Aside0.mk (blk_below (bpa8 BK2.out) hb) | replace BK2 := Aside0.mk (blk_below (blk_drewN (bpa8 BK2.out) _) hb)); have hcz2 := bc8 BK2.out; have hcz := bc4 BK.out; replace HB := Aside0.mk (below_step zB hb); clear hb)))
        (first
          | (have H := H'.out; obtain rfl := Option.some.inj H; go_ret; exact ⟨zT, zB⟩)
          | (go_roundg k3; (case measure => exact zM3); (case rel => exact ⟨_, zR, H', ⟨zM3⟩, ⟨zKf⟩, ⟨zB⟩⟩))
          | (refine startk2_ ⟨BK.out, BK2.out, HB.out⟩ (fun w_ hHeld => ?_); refine with_tabW spec_StateOk.tab16 (B := []) zK (fun HT_ HW_ => ?_)
             clear BK BK2 HB hcz hcz2 hx
             repeat (first | refine us_ ?_ | refine ps_ ?_ | refine ts_ hHeld ?_ (hv := by intro w' hs; have hc_ := bc4 hs.1; have hd_ := bc8 hs.2.1; (try have hy_ := cb8 hs.2.2 hy); go_simp; with_reducible rfl))
             refine done_ (done_of HT_.out (by kernel_rfl)) ?_
             have HB := Aside0.mk hHeld.2.2
             try go_wp2
             first
             | (have H := H'.out; obtain rfl := Option.some.inj H; go_ret; exact ⟨zT, zB⟩)
             | (go_roundg k3; (case measure => exact zM3); (case rel => exact ⟨_, zR, H', ⟨zM3⟩, ⟨hHeld.1⟩, ⟨zB⟩⟩))))
end Go.Proofs.YtbanogkoaplcdaaGreat.QDa
