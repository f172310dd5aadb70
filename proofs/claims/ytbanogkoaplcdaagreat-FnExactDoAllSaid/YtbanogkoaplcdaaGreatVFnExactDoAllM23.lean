/- Parts of the proof of FnExactDoAll, one behind the other. No condition. -/
import Derived.Test.YtbanogkoaplcdaaGreatVFnExactDoAllM22
namespace Go.Proofs.YtbanogkoaplcdaaGreat.QDa
open Go.RowKit Go.Proofs.YtbanogkoaplcdaaGreat.Auto Go.Proofs.YtbanogkoaplcdaaGreat.Lock Go.Proofs.YtbanogkoaplcdaaGreat.Short Go.Proofs.YtbanogkoaplcdaaGreatW.PrintWords Go.Proofs.YtbanogkoaplcdaaGreatW.PrintLast Go.Proofs.YtbanogkoaplcdaaGreatW.PrintMore
attribute [local go_sem] max2_int min2_int max_two min_two max_three min_three max_four min_four   -- for this text's walks alone
set_option linter.unusedVariables false
set_option linter.unusedSimpArgs false
def spec_l07Live.l0 : Nat → List (S93) → List (S93) → Bool → Int → Bool → ByteArray → ByteArray → Int → Int → Int → Option ((List (S93)))
  | 0, _, _, _, _, _, _, _, _, _, _ => none
  | k + 1, x0, x5, x6, x7, x233000, x233001, x233002, x233003, x233004, x233005 => if x7 < (x0.length : Int) then (if x6 = true then (if 0 ≤ x7 then (if x5.length < 2199023255552 then (spec_l07Live.l0 k x0 (x5 ++ [(⟨(rd_T93 x0 x7).f0, (rd_T93 x0 x7).f1, (rd_T93 x0 x7).f2, (rd_T93 x0 x7).f3, (⟨(rd_T93 x0 x7).f4.f0, (rd_T93 x0 x7).f4.f1⟩ : S59)⟩ : S93)]) x6 (wrap64 (x7 + 1)) x233000 x233001 x233002 x233003 x233004 x233005) else (none)) else (none)) else (if 0 ≤ x7 then ((spec_l06Before.f x233004 x233005 ((rd_T93 x0 x7).f4.f0) ((rd_T93 x0 x7).f4.f1)).bind fun t241 => (if t241 = true then (if x5.length < 2199023255552 then ((some (x5 ++ [(⟨x233000, x233001, x233002, x233003, (⟨x233004, x233005⟩ : S59)⟩ : S93)] : List (S93))).bind fun y242 => (if y242.length < 2199023255552 then (spec_l07Live.l0 k x0 (y242 ++ [(⟨(rd_T93 x0 x7).f0, (rd_T93 x0 x7).f1, (rd_T93 x0 x7).f2, (rd_T93 x0 x7).f3, (⟨(rd_T93 x0 x7).f4.f0, (rd_T93 x0 x7).f4.f1⟩ : S59)⟩ : S93)]) true (wrap64 (x7 + 1)) x233000 x233001 x233002 x233003 x233004 x233005) else (none))) else (none)) else (if x5.length < 2199023255552 then (spec_l07Live.l0 k x0 (x5 ++ [(⟨(rd_T93 x0 x7).f0, (rd_T93 x0 x7).f1, (rd_T93 x0 x7).f2, (rd_T93 x0 x7).f3, (⟨(rd_T93 x0 x7).f4.f0, (rd_T93 x0 x7).f4.f1⟩ : S59)⟩ : S93)]) x6 (wrap64 (x7 + 1)) x233000 x233001 x233002 x233003 x233004 x233005) else (none)))) else (none))) else (if x6 = true then (some x5) else (if x5.length < 2199023255552 then (some (x5 ++ [(⟨x233000, x233001, x233002, x233003, (⟨x233004, x233005⟩ : S59)⟩ : S93)])) else (none)))
def spec_l07Live.f (k : Nat) (l0 : List (S93)) (a1_0 : Bool) (a1_1 : ByteArray) (a1_2 : ByteArray) (a1_3 : Int) (a1_4 : Int) (a1_5 : Int) : Option ((List (S93))) := spec_l07Live.l0 k l0 (([] : List (S93))) false 0 a1_0 a1_1 a1_2 a1_3 a1_4 a1_5
def spec_l07Live.T6 : Bool × List (List Nat × List Nat) := (true, [([], []), ([0], [0]), ([1], [1]), ([2], [2]), ([3, 2], [2, 3]), ([2], [2]), ([2], [2]), ([5, 6, 2], [2, 5, 6]), ([7, 2], [2, 7]), ([8, 2], [2, 8]), ([4, 9, 2, 2], [2, 4, 9]), ([2, 10], [2, 10])])
theorem spec_l07Live.tab6 : rtab .any (opsOf Tryz.f80 6) = spec_l07Live.T6 := by kernel_rfl
set_option maxHeartbeats 8000000 in
set_option maxRecDepth 100000 in
theorem spec_l07Live.calls (k : Nat) (A0 : Option Addr) (c0 : Nat) (l0 : List (S93)) (a1_0 : Bool) (a1_1 : ByteArray) (a1_2 : ByteArray) (a1_3 : Int) (a1_4 : Int) (a1_5 : Int) (r : List (S93)) (w : World) (hr0 : Kd.C k93 w A0 l0.length l0) (hc0 : l0.length ≤ c0) (h : spec_l07Live.f k l0 a1_0 a1_1 a1_2 a1_3 a1_4 a1_5 = some r) :
  Calls Tryz.prog 80 #[.slice A0 l0.length c0, .agg #[.bool a1_0, .string a1_1, .string a1_2, .int .i64 a1_3, .int .i64 a1_4, .int .i64 a1_5]] w fun e w' => ∃ v0_ : Value, e = .returned (v0_) ∧ Kd.R k93 93 w' w.heap.size (fun _ => True) v0_ r ∧ Below w.heap.size w w' := by
 have hu93 := Tryz.underlying93
 have hu59 := Tryz.underlying59
 have HR0 := Aside0.mk hr0
 have HC0 := Aside0.mk hc0
 clear hr0 hc0
 have HB := Aside0.mk (Below.refl w.heap.size w)
 have H' := Aside0.mk h
 clear h
 go_enter Tryz.func80, Tryz.ntmps80
 go_wp2_with (first
   | ((with_reducible refine gate_dst (N := 3) rfl ?_); refine bx_ (N := 3) ?_; intro g hg w1 hbox hb; have BK := Aside0.mk hbox; have GE := gw_ w zB hg; replace HB := Aside0.mk (below_step zB hb); clear hb hbox hg; have hcz := bc6 BK.out)
   | ((with_reducible refine gate_dst (N := 8) rfl ?_); refine rl_ k93 93 (N := 8) zB ?_; intro v1 w1 ho hb; have HO := Aside0.mk (Kd.R_mono ho (ok' := fun k => k ≠ g) (fun k hk => Kd.freshB zKf k hk.2)); replace BK := bb_ BK zKf hb; replace HB := Aside0.mk (below_step zB hb); clear ho hb))
 go_loopg [5, 6, 7] k (fun kq v5 v6 v7 w' => ∃ (x5_1 : List (S93)) (x6_1 : Bool) (x7_1 : Int), v6 = .bool x6_1 ∧ v7 = .int .i64 x7_1 ∧ Aside0 (spec_l07Live.l0 kq l0 x5_1 x6_1 x7_1 a1_0 a1_1 a1_2 a1_3 a1_4 a1_5 = some r) ∧ Aside0 (kq ≤ k) ∧ Aside0 (Kd.R k93 93 w' w.heap.size (fun k_ => k_ ≠ g) v5 x5_1) ∧ Aside0 (w'.heap[g]? = some (.cells #[.bool a1_0, .string a1_1, .string a1_2, .int .i64 a1_3, .int .i64 a1_4, .int .i64 a1_5] 93 (0, 0))) ∧ Aside0 (Below w.heap.size w w'))
 case atStart => exact ⟨[], false, 0, zR, zR, H', ⟨Nat.le_refl _⟩, ⟨zO⟩, ⟨zKf⟩, ⟨zB⟩⟩
 case round =>
  clear H' BK HB HO hcz
  obtain ⟨xs, pt, x, rfl, rfl, HA, HK1, HO, BK, HB⟩ := hrel
  cases gk with
  | zero => exact absurd HA.out (by simp [spec_l07Live.l0])
  | succ k1 =>
   have H := HA.out
   clear HA
   simp only [spec_l07Live.l0] at H
   have hcz := bc6 BK.out
   replace H := ite_lt H
   rcases H with ⟨c, H⟩ | ⟨c, H⟩
   rotate_left
   ·
    repeat' (first
     | ((with_reducible refine none_o H); done)
     | ((with_reducible replace H := ite_t (by with_reducible assumption) H))
     | ((with_reducible replace H := ite_f (by with_reducible assumption) H))
     | ((with_reducible replace H := ite_n H); obtain ⟨LM, H⟩ := H)
     | ((with_reducible replace H := ite_lt H); rcases H with ⟨c1, H⟩ | ⟨c1, H⟩)
     | ((with_reducible replace H := ite_le H); rcases H with ⟨c1, H⟩ | ⟨c1, H⟩)
     | ((with_reducible replace H := ite_b H); rcases H with ⟨c1, H⟩ | ⟨c1, H⟩ <;> (fail_if_success subst c1))
     | ((with_reducible replace H := ite_ei H); rcases H with ⟨c1, H⟩ | ⟨c1, H⟩)
     | ((with_reducible replace H := ite_es H); rcases H with ⟨c1, H⟩ | ⟨c1, H⟩)
     | ((with_reducible replace H := bind_s H); (try dsimp only at H))
     | ((with_reducible replace H := bind_o H); obtain ⟨t, A, H⟩ := H; (try dsimp only at H))
     | ((with_reducible replace H := ite_b H); rcases H with ⟨rfl, H⟩ | ⟨rfl, H⟩))
    all_goals
     obtain rfl := Option.some.inj H
     go_wp2_with ((at_builtin; refine apk_ (ok := fun k => k ≠ g) mk93 Tryz.underlying32 info93 zO zF zB (below_size zB) (ap_n (by with_reducible assumption)) ?_; intro v1 w1 ho hb hg; replace BK := Aside0.mk (blk_grown zKf hg zG); replace HB := Aside0.mk hb; replace HO := Aside0.mk ho; clear ho hb hg))
     go_ret
     exact ⟨_, zT, zO, zB⟩
   replace H := ite_b H
   rcases H with ⟨rfl, H⟩ | ⟨rfl, H⟩
   all_goals
    replace H := ite_le H
    rcases H with ⟨c', H⟩ | ⟨c', H⟩
    rotate_left
    · exact none_o H
    obtain ⟨ad, e, hx⟩ := at_T93 HR0.out x (of_decide_eq_true c') (of_decide_eq_true c)
    cases e
    have p := eqt c
    have p' := eqt c'
    have hy := cb6 HB.out hx
    try go_wp2
    refine startr_ ⟨BK.out, HO.out, HB.out⟩ (fun w_ hHeld => ?_); refine with_tabW spec_l07Live.tab6 (B := []) zK (fun HT_ HW_ => ?_)
    clear BK HO HB hcz hy
    repeat' (first
     | ((with_reducible refine none_o H); done)
     | ((with_reducible replace H := ite_t (by with_reducible assumption) H))
     | ((with_reducible replace H := ite_f (by with_reducible assumption) H))
     | ((with_reducible replace H := ite_n H); obtain ⟨LM, H⟩ := H)
     | ((with_reducible replace H := ite_lt H); rcases H with ⟨c1, H⟩ | ⟨c1, H⟩)
     | ((with_reducible replace H := ite_le H); rcases H with ⟨c1, H⟩ | ⟨c1, H⟩)
     | ((with_reducible replace H := ite_b H); rcases H with ⟨c1, H⟩ | ⟨c1, H⟩ <;> (fail_if_success subst c1))
     | ((with_reducible replace H := ite_ei H); rcases H with ⟨c1, H⟩ | ⟨c1, H⟩)
     | ((with_reducible replace H := ite_es H); rcases H with ⟨c1, H⟩ | ⟨c1, H⟩)
     | ((with_reducible replace H := bind_s H); (try dsimp only at H))
     | ((with_reducible replace H := bind_o H); obtain ⟨t, A, H⟩ := H; (try dsimp only at H))
     | refine us_ ?_ | refine ps_ ?_ | refine ts_ hHeld ?_ (hv := by intro w' hs; have hc_ := bc6 hs.1; (try have hy_ := cb6 hs.2.2 hx); go_simp; with_reducible rfl)
     | (refine done_ (done_of HT_.out (by kernel_rfl)) ?_; have BK := Aside0.mk hHeld.1; have HO := Aside0.mk hHeld.2.1; have HB := Aside0.mk hHeld.2.2; (try simp only [World.drewN_drewN] at BK HO HB); have hcz := bc6 BK.out; have hy := cb6 HB.out hx; have H' := Aside0.mk H; clear H; (try go_wp2_with ((at_builtin; refine apk_ (ok := fun k => k ≠ g) mk93 Tryz.underlying32 info93 zO zF zB (below_size zB) (ap_n (by with_reducible assumption)) ?_; intro v1 w1 ho hb hg; replace BK := Aside0.mk (blk_grown zKf hg zG); replace HB := Aside0.mk hb; replace HO := Aside0.mk ho; clear ho hb hg; have hcz := bc6 BK.out; have hy := cb6 HB.out hx))); go_roundg k1; (case measure => exact zM); (case rel => exact ⟨_, _, _, zR, zR, H', ⟨zM⟩, ⟨zO⟩, ⟨zKf⟩, ⟨zB⟩⟩))
     | (first
        | refine oc_ Tryz.func96 (spec_l06Before.calls _ _ _ _ _ _) zPb ?_
        clear hHeld; intro w_ hHeld)
     | ((with_reducible replace H := ite_b H); rcases H with ⟨rfl, H⟩ | ⟨rfl, H⟩))
end Go.Proofs.YtbanogkoaplcdaaGreat.QDa
