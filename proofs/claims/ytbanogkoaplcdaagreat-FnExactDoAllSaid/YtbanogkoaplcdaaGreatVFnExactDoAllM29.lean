/- Parts of the proof of FnExactDoAll, one behind the other. No condition. -/
import Derived.Test.YtbanogkoaplcdaaGreatVFnExactDoAllM20
import Derived.Test.YtbanogkoaplcdaaGreatVFnExactDoAllM28
namespace Go.Proofs.YtbanogkoaplcdaaGreat.QDa
open Go.RowKit Go.Proofs.YtbanogkoaplcdaaGreat.Auto Go.Proofs.YtbanogkoaplcdaaGreat.Lock Go.Proofs.YtbanogkoaplcdaaGreat.Short Go.Proofs.YtbanogkoaplcdaaGreatW.PrintWords Go.Proofs.YtbanogkoaplcdaaGreatW.PrintLast Go.Proofs.YtbanogkoaplcdaaGreatW.PrintMore
attribute [local go_sem] max2_int min2_int max_two min_two max_three min_three max_four min_four   -- for this text's walks alone
set_option linter.unusedVariables false
set_option linter.unusedSimpArgs false
attribute [local go_sem high] eqA59
def spec_ActOk.j0 : Nat → Bool → Int → Int → Int → List Int → Int → ByteArray → ByteArray → Int → Int → Int → Option (Bool)
  | 0, _, _, _, _, _, _, _, _, _, _, _ => none
  | k + 1, x44, x212000, x212001, x212002, x212003, x212004, x212005, x212006, x212007, x212008, x212009 => if x44 = true then (some false) else (if x212004 = 7 then ((spec_Knows.f k x212003 x212008 x212009).bind fun t217 => (some t217)) else (if x212004 = 6 then (if (x212008 == 0 && (x212009 == 0)) = true then (some true) else ((spec_Knows.f k x212003 x212008 x212009).bind fun t218 => (some t218))) else (some (x212008 == 0 && (x212009 == 0)))))
def spec_ActOk.f (k : Nat) (a0_0 : Int) (a0_1 : Int) (a0_2 : Int) (l0_3 : List Int) (a0_4 : Int) (a0_5 : ByteArray) (a0_6 : ByteArray) (a0_7 : Int) (a0_8 : Int) (a0_9 : Int) : Option (Bool) := (spec_DotOk.f a0_0 a0_1).bind fun t212 => (if t212 = true then ((spec_KnowOk.f k l0_3).bind fun t213 => (if t213 = true then (if 0 ≤ a0_0 then (if a0_0 < (l0_3.length : Int) then (if (rd l0_3 a0_0) = (wrap64 (a0_1 - 1)) then ((spec_l01In.f a0_2 1 10000).bind fun t215 => (if t215 = true then ((spec_l05Plain.f k a0_4 a0_5 a0_6 a0_7).bind fun t216 => (spec_ActOk.j0 k (!t216) a0_0 a0_1 a0_2 l0_3 a0_4 a0_5 a0_6 a0_7 a0_8 a0_9)) else (spec_ActOk.j0 k true a0_0 a0_1 a0_2 l0_3 a0_4 a0_5 a0_6 a0_7 a0_8 a0_9))) else (spec_ActOk.j0 k true a0_0 a0_1 a0_2 l0_3 a0_4 a0_5 a0_6 a0_7 a0_8 a0_9)) else (none)) else (none)) else (spec_ActOk.j0 k true a0_0 a0_1 a0_2 l0_3 a0_4 a0_5 a0_6 a0_7 a0_8 a0_9))) else (spec_ActOk.j0 k true a0_0 a0_1 a0_2 l0_3 a0_4 a0_5 a0_6 a0_7 a0_8 a0_9))
def spec_ActOk.T1 : Bool × List (List Nat × List Nat) := (true, [([], []), ([0], [0]), ([1], [1]), ([2], [2]), ([3, 2], [3]), ([4], [4]), ([5, 4], [4, 5]), ([6, 4, 4], [4, 6]), ([7, 4], [4, 7]), ([4, 8], [4, 8]), ([9, 7], [9]), ([10], [10]), ([11, 10], [10, 11]), ([10], [10]), ([13, 10], [10, 13]), ([14, 10], [10, 14]), ([12, 15, 10], [10, 12, 15]), ([16, 10], [10, 16]), ([10], [10]), ([18, 10], [10, 18]), ([19, 10], [10, 19]), ([20, 10], [10, 20]), ([17, 21, 10], [10, 17, 21]), ([10, 22], [10, 22]), ([23, 10], [23]), ([24], [24]), ([25, 24], [24, 25]), ([26, 24, 24], [24, 26]), ([27, 24], [24, 27]), ([24, 28], [24, 28]), ([29, 27], [29]), ([30], [30]), ([31, 30], [30, 31]), ([30], [30]), ([33, 30], [30, 33]), ([30], [30]), ([35, 30], [30, 35]), ([30], [30]), ([37, 30], [30, 37]), ([32, 34, 36, 38, 30, 30], [30, 32, 34, 36, 38]), ([39, 30], [30, 39]), ([30, 40], [30, 40])])
theorem spec_ActOk.tab1 : rtab .any (opsOf Tryz.f47 1) = spec_ActOk.T1 := by kernel_rfl
set_option maxHeartbeats 8000000 in
set_option maxRecDepth 100000 in
theorem spec_ActOk.calls (k : Nat) (a0_0 : Int) (a0_1 : Int) (a0_2 : Int) (A0_3 : Option Addr) (c0_3 : Nat) (l0_3 : List Int) (a0_4 : Int) (a0_5 : ByteArray) (a0_6 : ByteArray) (a0_7 : Int) (a0_8 : Int) (a0_9 : Int) (r : Bool) (w : World) (hr0_3 : Kd.C (Kd.int .i64) w A0_3 l0_3.length l0_3) (hc0_3 : l0_3.length ≤ c0_3) (h : spec_ActOk.f k a0_0 a0_1 a0_2 l0_3 a0_4 a0_5 a0_6 a0_7 a0_8 a0_9 = some r) :
  Calls Tryz.prog 47 #[.agg #[.int .i64 a0_0, .int .i64 a0_1, .int .i64 a0_2, .slice A0_3 l0_3.length c0_3, .int .i64 a0_4, .string a0_5, .string a0_6, .int .i64 a0_7, .int .i64 a0_8, .int .i64 a0_9]] w fun e w' => e = .returned (.bool r) ∧ Below w.heap.size w w' := by
 have hu61 := Tryz.underlying61
 have hu59 := Tryz.underlying59
 have HR0_3 := Aside0.mk hr0_3
 have HC0_3 := Aside0.mk hc0_3
 clear hr0_3 hc0_3
 have HB := Aside0.mk (Below.refl w.heap.size w)
 have HC := Aside0.mk h
 clear h
 go_enter Tryz.func47, Tryz.ntmps47
 go_upto_region 1 with (((with_reducible refine gate_dst (N := 1) rfl ?_); refine bx_ (N := 1) ?_; intro g hg w1 hbox hb; have BK := Aside0.mk hbox; have GE := gw_ w zB hg; replace HB := Aside0.mk (below_step zB hb); clear hb hbox hg; have hcz := bc10 BK.out))
 (try simp only [Act.put, List.setIfInBounds_toArray, List.set_cons_zero, List.set_cons_succ])
 go_cut [44] (fun v44 wc => ∃ (kq : Nat) (x44_1 : Bool), v44 = .bool x44_1 ∧ Aside0 (spec_ActOk.j0 kq x44_1 a0_0 a0_1 a0_2 l0_3 a0_4 a0_5 a0_6 a0_7 a0_8 a0_9 = some r) ∧ Aside0 (kq ≤ k) ∧ Aside0 (wc.heap[g]? = some (.cells #[.int .i64 a0_0, .int .i64 a0_1, .int .i64 a0_2, (.slice A0_3 l0_3.length c0_3), .int .i64 a0_4, .string a0_5, .string a0_6, .int .i64 a0_7, .int .i64 a0_8, .int .i64 a0_9] 61 (0, 0))) ∧ Aside0 (Below w.heap.size w wc))
 case first =>
  have H := HC.out
  clear HC
  unfold spec_ActOk.f at H
  try go_wp2
  refine startk_ ⟨BK.out, HB.out⟩ (fun w_ hHeld => ?_); refine with_tabW spec_ActOk.tab1 (B := []) zK (fun HT_ HW_ => ?_)
  clear BK HB hcz
  repeat' (first
   | ((with_reducible refine none_o H); done)
   | ((with_reducible replace H := eli_ HR0_3.out H); obtain ⟨ad, e, hx, ⟨_, _, _, _⟩, H⟩ := H; cases e)
   | ((with_reducible replace H := ite_t (by with_reducible assumption) H))
   | ((with_reducible replace H := ite_f (by with_reducible assumption) H))
   | ((with_reducible replace H := ite_lt H); rcases H with ⟨c1, H⟩ | ⟨c1, H⟩)
   | ((with_reducible replace H := ite_le H); rcases H with ⟨c1, H⟩ | ⟨c1, H⟩)
   | ((with_reducible replace H := ite_b H); rcases H with ⟨c1, H⟩ | ⟨c1, H⟩ <;> (fail_if_success subst c1))
   | ((with_reducible replace H := ite_ei H); rcases H with ⟨c1, H⟩ | ⟨c1, H⟩)
   | ((with_reducible replace H := ite_es H); rcases H with ⟨c1, H⟩ | ⟨c1, H⟩)
   | ((with_reducible replace H := bind_s H); (try dsimp only at H))
   | ((with_reducible replace H := bind_o H); obtain ⟨t, A, H⟩ := H; (try dsimp only at H))
   | refine us_ ?_ | refine ps_ ?_ | refine ts_ hHeld ?_ (hv := by intro w' hs; have hc_ := bc10 hs.1; (try have hy_ := cb_ ⟨hs.2⟩ hx); go_simp; with_reducible rfl)
   | (refine done_ (done_of HT_.out (by kernel_rfl)) ?_; have BK := Aside0.mk hHeld.1; have HB := Aside0.mk hHeld.2; (try simp only [World.drewN_drewN] at BK HB); have H' := Aside0.mk H; clear H; (try go_wp2); go_meet; (case rel => exact ⟨_, _, zR, H', ⟨Nat.le_refl _⟩, ⟨BK.out⟩, ⟨zB⟩⟩))
   | (first
      | refine oc_ Tryz.func76 (spec_DotOk.calls _ _ _ _) zPb ?_
      | refine oc_ Tryz.func71 (fun h => spec_KnowOk.calls _ _ _ _ _ _ zCr zL h) zPd ?_
      | refine oc_ Tryz.func77 (spec_l01In.calls _ _ _ _ _) zPd ?_
      | refine oc_ Tryz.func78 (spec_l05Plain.calls _ _ _ _ _ _ _) zPd ?_
      clear hHeld; intro w_ hHeld)
   | ((with_reducible replace H := ite_b H); rcases H with ⟨rfl, H⟩ | ⟨rfl, H⟩))
 case rest =>
  clear HC BK HB hcz
  obtain ⟨kq, b, rfl, HA, HJ, BK, HB⟩ := hcut
  cases kq with
  | zero => exact absurd HA.out (by simp [spec_ActOk.j0])
  | succ kj =>
   have H := HA.out
   clear HA
   simp only [spec_ActOk.j0] at H
   repeat' (first
    | ((with_reducible refine none_o H); done)
    | ((with_reducible replace H := ite_t (by with_reducible assumption) H))
    | ((with_reducible replace H := ite_f (by with_reducible assumption) H))
    | ((with_reducible replace H := ite_lt H); rcases H with ⟨c1, H⟩ | ⟨c1, H⟩)
    | ((with_reducible replace H := ite_le H); rcases H with ⟨c1, H⟩ | ⟨c1, H⟩)
    | ((with_reducible replace H := ite_b H); rcases H with ⟨c1, H⟩ | ⟨c1, H⟩ <;> (fail_if_success subst c1))
    | ((with_reducible replace H := ite_ei H); rcases H with ⟨c1, H⟩ | ⟨c1, H⟩)
    | ((with_reducible replace H := ite_es H); rcases H with ⟨c1, H⟩ | ⟨c1, H⟩)
    | ((with_reducible replace H := bind_s H); (try dsimp only at H))
    | ((with_reducible replace H := bind_o H); obtain ⟨t, A, H⟩ := H; (try dsimp only at H))
    | ((with_reducible replace H := ite_b H); rcases H with ⟨rfl, H⟩ | ⟨rfl, H⟩))
   all_goals
    have hcz := bc10 BK.out
    obtain rfl := Option.some.inj H
    go_wp2_with (first
      | (go_at_call 48; (with_reducible refine (spec_Knows.calls _ _ _ _ _ _ _ _ zC zL zA).mono ?_); rintro e w' ⟨rfl, hb⟩; replace HB := Aside0.mk (below_step zB hb); clear hb))
    go_ret
    exact ⟨zT, zB⟩
end Go.Proofs.YtbanogkoaplcdaaGreat.QDa
