/- Parts of the proof of FnExactSettled, one behind the other. No condition. -/
import Derived.Test.YtbanogkoaplcdaaVFnExactSettledM16
namespace Go.Proofs.Ytbanogkoaplcdaa.QSe
open Go.RowKit Go.Proofs.Ytbanogkoaplcdaa.Auto Go.Proofs.Ytbanogkoaplcdaa.Lock Go.Proofs.Ytbanogkoaplcdaa.Short Go.Proofs.YtbanogkoaplcdaaW.PrintWords Go.Proofs.YtbanogkoaplcdaaW.PrintLast Go.Proofs.YtbanogkoaplcdaaW.PrintMore
attribute [local go_sem] max2_int min2_int max_two min_two max_three min_three max_four min_four   -- for this text's walks alone
set_option linter.unusedVariables false
set_option linter.unusedSimpArgs false
theorem z20_12 {P : Prop} (h : P := by first | rfl | (simp only [List.map_toArray, List.map_cons, List.map_nil]; first | done | rfl)) : P := h
theorem z20_11 {P : Prop} (h : P := by first | exact Kd.R_nil _ _ _ _ _ | exact Kd.N_nil _ _ _ _ _ | exact Kd.V_nil _ _ _ _ _ | exact Kd.Q_nil _ _ _ _ _ | exact Kd.S_nil _ _ _ _ _) : P := h
theorem z20_10 {P : Prop} (h : P := by first | rfl | (simp [errW_none, errW_some] <;> rfl) | (simp [*, errW_none, errW_some] <;> rfl)) : P := h
theorem z20_8 {P : Prop} (h : P := by repeat (first | (with_reducible first | exact HB.out | apply below_alloc | apply pw_below_drewN | apply below_drew1 | refine below_set ?_ GE377.out) | exact HB.out)) : P := h
theorem z20_7 {P : Prop} (h : P := by kernel_rfl) : P := h
theorem z20_3 {P : Prop} (h : P := by repeat (first | (with_reducible first | exact HB.out | apply below_alloc | apply pw_below_drewN | apply below_drew1) | exact HB.out)) : P := h
def spec_l07Cell.l0 : Nat → List (S73) → List (S73) → Bool → Int → ByteArray → Int → Int → Int → Int → Int → Int → Bool → Option ((List (S73)))
  | 0, _, _, _, _, _, _, _, _, _, _, _, _ => none
  | k + 1, x0, x5, x6, x7, x350000, x350001, x350002, x350003, x350004, x350005, x350006, x350007 => if x7 < (x0.length : Int) then (if x6 = true then (if 0 ≤ x7 then (if x5.length < 1954687338268 then (spec_l07Cell.l0 k x0 (x5 ++ [(⟨(rd_T73 x0 x7).f0, (⟨(rd_T73 x0 x7).f1.f0, (rd_T73 x0 x7).f1.f1⟩ : S38), (rd_T73 x0 x7).f2, (⟨(rd_T73 x0 x7).f3.f0, (rd_T73 x0 x7).f3.f1⟩ : S38), (rd_T73 x0 x7).f4, (rd_T73 x0 x7).f5⟩ : S73)]) x6 (wrap64 (x7 + 1)) x350000 x350001 x350002 x350003 x350004 x350005 x350006 x350007) else (none)) else (none)) else (if 0 ≤ x7 then ((spec_l06Before.f x350001 x350002 ((rd_T73 x0 x7).f1.f0) ((rd_T73 x0 x7).f1.f1)).bind fun t358 => (if t358 = true then (if x5.length < 1954687338268 then ((some (x5 ++ [(⟨x350000, (⟨x350001, x350002⟩ : S38), x350003, (⟨x350004, x350005⟩ : S38), x350006, x350007⟩ : S73)] : List (S73))).bind fun y359 => (if y359.length < 1954687338268 then (spec_l07Cell.l0 k x0 (y359 ++ [(⟨(rd_T73 x0 x7).f0, (⟨(rd_T73 x0 x7).f1.f0, (rd_T73 x0 x7).f1.f1⟩ : S38), (rd_T73 x0 x7).f2, (⟨(rd_T73 x0 x7).f3.f0, (rd_T73 x0 x7).f3.f1⟩ : S38), (rd_T73 x0 x7).f4, (rd_T73 x0 x7).f5⟩ : S73)]) true (wrap64 (x7 + 1)) x350000 x350001 x350002 x350003 x350004 x350005 x350006 x350007) else (none))) else (none)) else (if x5.length < 1954687338268 then (spec_l07Cell.l0 k x0 (x5 ++ [(⟨(rd_T73 x0 x7).f0, (⟨(rd_T73 x0 x7).f1.f0, (rd_T73 x0 x7).f1.f1⟩ : S38), (rd_T73 x0 x7).f2, (⟨(rd_T73 x0 x7).f3.f0, (rd_T73 x0 x7).f3.f1⟩ : S38), (rd_T73 x0 x7).f4, (rd_T73 x0 x7).f5⟩ : S73)]) x6 (wrap64 (x7 + 1)) x350000 x350001 x350002 x350003 x350004 x350005 x350006 x350007) else (none)))) else (none))) else (if x6 = true then (some x5) else (if x5.length < 1954687338268 then (some (x5 ++ [(⟨x350000, (⟨x350001, x350002⟩ : S38), x350003, (⟨x350004, x350005⟩ : S38), x350006, x350007⟩ : S73)])) else (none)))
def spec_l07Cell.f (k : Nat) (l0 : List (S73)) (a1_0 : ByteArray) (a1_1 : Int) (a1_2 : Int) (a1_3 : Int) (a1_4 : Int) (a1_5 : Int) (a1_6 : Int) (a1_7 : Bool) : Option ((List (S73))) := spec_l07Cell.l0 k l0 (([] : List (S73))) false 0 a1_0 a1_1 a1_2 a1_3 a1_4 a1_5 a1_6 a1_7
def spec_l07Cell.T6 : Bool × List (List Nat × List Nat) := (true, [([], []), ([0], [0]), ([1], [1]), ([2], [2]), ([3, 2], [2, 3]), ([2], [2]), ([2], [2]), ([5, 6, 2], [2, 5, 6]), ([7, 2], [2, 7]), ([8, 2], [2, 8]), ([4, 9, 2, 2], [2, 4, 9]), ([2, 10], [2, 10])])
theorem spec_l07Cell.tab6 : rtab .any (opsOf Try.f114 6) = spec_l07Cell.T6 := by kernel_rfl
set_option maxHeartbeats 8000000 in
set_option maxRecDepth 100000 in
theorem spec_l07Cell.calls (k : Nat) (A0 : Option Addr) (c0 : Nat) (l0 : List (S73)) (a1_0 : ByteArray) (a1_1 : Int) (a1_2 : Int) (a1_3 : Int) (a1_4 : Int) (a1_5 : Int) (a1_6 : Int) (a1_7 : Bool) (r : List (S73)) (w : World) (hr0 : Kd.C k73 w A0 l0.length l0) (hc0 : l0.length ≤ c0) (h : spec_l07Cell.f k l0 a1_0 a1_1 a1_2 a1_3 a1_4 a1_5 a1_6 a1_7 = some r) :
  Calls Try.prog 114 #[.slice A0 l0.length c0, .agg #[.string a1_0, .int .i64 a1_1, .int .i64 a1_2, .int .i64 a1_3, .int .i64 a1_4, .int .i64 a1_5, .int .i64 a1_6, .bool a1_7]] w fun e w' => ∃ v0_ : Value, e = .returned (v0_) ∧ Kd.R k73 73 w' w.heap.size (fun _ => True) v0_ r ∧ Below w.heap.size w w' := by
 have hu73 := Try.underlying73
 have hu38 := Try.underlying38
 have HR0 := Aside0.mk hr0
 have HC0 := Aside0.mk hc0
 clear hr0 hc0
 have HB := Aside0.mk (Below.refl w.heap.size w)
 have H' := Aside0.mk h
 clear h
 go_enter Try.func114, Try.ntmps114
 go_wp2_with (first
   | ((with_reducible refine gate_dst (N := 3) rfl ?_); refine bx_ (N := 3) ?_; intro g hg w1 hbox hb; have BK := Aside0.mk hbox; have GE := gw_ w zB hg; replace HB := Aside0.mk (below_step zB hb); clear hb hbox hg; have hcz := bc8 BK.out)
   | ((with_reducible refine gate_dst (N := 8) rfl ?_); refine rl_ k73 73 (N := 8) zB ?_; intro v1 w1 ho hb; have HO := Aside0.mk (Kd.R_mono ho (ok' := fun k => k ≠ g) (fun k hk => Kd.freshB zKf k hk.2)); replace BK := bb_ BK zKf hb; replace HB := Aside0.mk (below_step zB hb); clear ho hb))
 go_loopg [5, 6, 7] k (fun kq v5 v6 v7 w' => ∃ (x5_1 : List (S73)) (x6_1 : Bool) (x7_1 : Int), v6 = .bool x6_1 ∧ v7 = .int .i64 x7_1 ∧ Aside0 (spec_l07Cell.l0 kq l0 x5_1 x6_1 x7_1 a1_0 a1_1 a1_2 a1_3 a1_4 a1_5 a1_6 a1_7 = some r) ∧ Aside0 (kq ≤ k) ∧ Aside0 (Kd.R k73 73 w' w.heap.size (fun k_ => k_ ≠ g) v5 x5_1) ∧ Aside0 (w'.heap[g]? = some (.cells #[.string a1_0, .int .i64 a1_1, .int .i64 a1_2, .int .i64 a1_3, .int .i64 a1_4, .int .i64 a1_5, .int .i64 a1_6, .bool a1_7] 73 (0, 0))) ∧ Aside0 (Below w.heap.size w w'))
 case atStart => exact ⟨[], false, 0, zR, zR, H', ⟨Nat.le_refl _⟩, ⟨zO⟩, ⟨zKf⟩, ⟨zB⟩⟩
 case round =>
  clear H' BK HB HO hcz
  obtain ⟨xs, pt, x, rfl, rfl, HA, HK1, HO, BK, HB⟩ := hrel
  cases gk with
  | zero => exact absurd HA.out (by simp [spec_l07Cell.l0])
  | succ k1 =>
   have H := HA.out
   clear HA
   simp only [spec_l07Cell.l0] at H
   have hcz := bc8 BK.out
   replace H := ite_lt H
   rcases H with ⟨c, H⟩ | ⟨c, H⟩
   rotate_left
   ·
    repeat' (first
     | ((with_reducible refine none_o H); done)
     | ((with_reducible replace H := ite_t (by with_reducible assumption) H))
     | ((with_reducible replace H := ite_f (by with_reducible assumption) H))
     | ((with_reducible replace H := ite_n H); obtain ⟨LM, H⟩ := H)
     | ((with_reducible replace H := ite_lt H); rcases H with ⟨c1, H⟩ | ⟨c1, H⟩)
     | ((with_reducible replace H := ite_le H); rcases H with ⟨c1, H⟩ | ⟨c1, H⟩)
     | ((with_reducible replace H := ite_b H); rcases H with ⟨c1, H⟩ | ⟨c1, H⟩ <;> (fail_if_success subst c1))
     | ((with_reducible replace H := ite_ei H); rcases H with ⟨c1, H⟩ | ⟨c1, H⟩)
     | ((with_reducible replace H := ite_es H); rcases H with ⟨c1, H⟩ | ⟨c1, H⟩)
     | ((with_reducible replace H := bind_s H); (try dsimp only at H))
     | ((with_reducible replace H := bind_o H); obtain ⟨t, A, H⟩ := H; (try dsimp only at H))
     | ((with_reducible replace H := ite_b H); rcases H with ⟨rfl, H⟩ | ⟨rfl, H⟩))
    all_goals
     obtain rfl := Option.some.inj H
     go_wp2_with ((at_builtin; refine apk_ (ok := fun k => k ≠ g) mk73 Try.underlying34 info73 zO zF zB (below_size zB) (ap_n (by with_reducible assumption)) ?_; intro v1 w1 ho hb hg; replace BK := Aside0.mk (blk_grown zKf hg zG); replace HB := Aside0.mk hb; replace HO := Aside0.mk ho; clear ho hb hg))
     go_ret
     exact ⟨_, zT, zO, zB⟩
   replace H := ite_b H
   rcases H with ⟨rfl, H⟩ | ⟨rfl, H⟩
   all_goals
    replace H := ite_le H
    rcases H with ⟨c', H⟩ | ⟨c', H⟩
    rotate_left
    · exact none_o H
    obtain ⟨ad, e, hx⟩ := at_T73 HR0.out x (of_decide_eq_true c') (of_decide_eq_true c)
    cases e
    have p := eqt c
    have p' := eqt c'
    have hy := cb8 HB.out hx
    try go_wp2
    refine startr_ ⟨BK.out, HO.out, HB.out⟩ (fun w_ hHeld => ?_); refine with_tabW spec_l07Cell.tab6 (B := []) zK (fun HT_ HW_ => ?_)
    clear BK HO HB hcz hy
    repeat' (first
     | ((with_reducible refine none_o H); done)
     | ((with_reducible replace H := ite_t (by with_reducible assumption) H))
     | ((with_reducible replace H := ite_f (by with_reducible assumption) H))
     | ((with_reducible replace H := ite_n H); obtain ⟨LM, H⟩ := H)
     | ((with_reducible replace H := ite_lt H); rcases H with ⟨c1, H⟩ | ⟨c1, H⟩)
     | ((with_reducible replace H := ite_le H); rcases H with ⟨c1, H⟩ | ⟨c1, H⟩)
     | ((with_reducible replace H := ite_b H); rcases H with ⟨c1, H⟩ | ⟨c1, H⟩ <;> (fail_if_success subst c1))
     | ((with_reducible replace H := ite_ei H); rcases H with ⟨c1, H⟩ | ⟨c1, H⟩)
     | ((with_reducible replace H := ite_es H); rcases H with ⟨c1, H⟩ | ⟨c1, H⟩)
     | ((with_reducible replace H := bind_s H); (try dsimp only at H))
     | ((with_reducible replace H := bind_o H); obtain ⟨t, A, H⟩ := H; (try dsimp only at H))
     | refine us_ ?_ | refine ps_ ?_ | refine ts_ hHeld ?_ (hv := by intro w' hs; have hc_ := bc8 hs.1; (try have hy_ := cb8 hs.2.2 hx); go_simp; with_reducible rfl)
     | (refine done_ (done_of HT_.out (by kernel_rfl)) ?_; have BK := Aside0.mk hHeld.1; have HO := Aside0.mk hHeld.2.1; have HB := Aside0.mk hHeld.2.2; (try simp only [World.drewN_drewN] at BK HO HB); have hcz := bc8 BK.out; have hy := cb8 HB.out hx; have H' := Aside0.mk H; clear H; (try go_wp2_with ((at_builtin; refine apk_ (ok := fun k => k ≠ g) mk73 Try.underlying34 info73 zO zF zB (below_size zB) (ap_n (by with_reducible assumption)) ?_; intro v1 w1 ho hb hg; replace BK := Aside0.mk (blk_grown zKf hg zG); replace HB := Aside0.mk hb; replace HO := Aside0.mk ho; clear ho hb hg; have hcz := bc8 BK.out; have hy := cb8 HB.out hx))); go_roundg k1; (case measure => exact zM); (case rel => exact ⟨_, _, _, zR, zR, H', ⟨zM⟩, ⟨zO⟩, ⟨zKf⟩, ⟨zB⟩⟩))
     | (first
        | refine oc_ Try.func105 (spec_l06Before.calls _ _ _ _ _ _) zPb ?_
        clear hHeld; intro w_ hHeld)
     | ((with_reducible replace H := ite_b H); rcases H with ⟨rfl, H⟩ | ⟨rfl, H⟩))
def spec_KnowNew.f  : Option (List Int) := if 3 ≤ 35184372088832 then (some (List.replicate 3 0)) else (none)
set_option maxHeartbeats 8000000 in
set_option maxRecDepth 100000 in
theorem spec_KnowNew.calls  (r : List Int) (w : World) (h : spec_KnowNew.f  = some r) :
  Calls Try.prog 118 #[] w fun e w' => ∃ v0_ : Value, e = .returned (v0_) ∧ Kd.R (Kd.int .i64) 3 w' w.heap.size (fun _ => True) v0_ r ∧ Below w.heap.size w w' := by
 have HB := Aside0.mk (Below.refl w.heap.size w)
 have H : (if 3 ≤ 35184372088832 then (some (List.replicate 3 0)) else (none)) = some r := h
 clear h
 by_cases c1 : 3 ≤ 35184372088832
 rotate_left
 ·
  rw [if_neg c1] at H
  exact absurd H (by simp)
 rw [if_pos c1] at H
 have c1b0 := eq_true c1
 have c1b1 : decide (3 ≤ 35184372088832) = true := decide_eq_true c1
 clear c1
 obtain ⟨y374, hy374⟩ : ∃ y_ : List Int, y_ = (List.replicate 3 0) := ⟨_, rfl⟩
 replace H : (some y374) = some r := by first | (rw [hy374]; with_reducible exact H) | (have H2_ := (Option.bind_some _ _).symm.trans H; rw [hy374]; with_reducible exact H2_) | (have H2_ := (Option.bind_some _ _).symm.trans H; with_reducible exact H2_) | with_reducible exact H | (rw [hy374]; exact H) | exact H
 have Ny374 := Aside0.mk hy374
 clear hy374
 obtain rfl := Option.some.inj H
 go_enter Try.func118, Try.ntmps118
 go_wp2_with (first | ((with_reducible refine gate_dst (N := 1) rfl ?_); refine Kd.R_make (Kd.int .i64) _ 3 rfl (N := 1) rfl 22 _ _ rfl 3 rfl rfl Try.underlying22 (.int .i64 0) 8 info3 rfl (by decide) (by omega) 0 (ok := fun _ => True) (okp := fun _ => True) rfl (fun _ hk => hk) trivial (by omega) (by omega) (Below.refl _ _) (Nat.le_refl _) ?_; intro v375 w2 ho3 hb hg_ hnew_; clear hg_ hnew_; (first | rw [← Ny374.out] at ho3 | (simp only [Int.reduceToNat] at ho3; rw [← Ny374.out] at ho3)); have HO376 := Aside0.mk (Kd.R_lower ho3 (below_size z20_3)); replace HB := Aside0.mk (below_step z20_3 hb); clear hb ho3))
 go_ret
 exact ⟨_, z20_10, by (with_reducible repeat (first | apply Kd.R_alloc | apply Kd.R_drewN | apply Kd.R_drew)); exact HO376.out, z20_3⟩
def spec_StateNew.f  : Option (List Int × (List (S84)) × (List (S86)) × (List (S73))) := (spec_KnowNew.f).bind fun t378 => (some (t378, ([] : List (S84)), ([] : List (S86)), ([] : List (S73))))
set_option maxHeartbeats 8000000 in
set_option maxRecDepth 100000 in
theorem spec_StateNew.calls  (r1 : List Int) (r2 : List (S84)) (r3 : List (S86)) (r4 : List (S73)) (w : World) (h : spec_StateNew.f  = some (r1, r2, r3, r4)) :
  Calls Try.prog 87 #[] w fun e w' => ∃ v0_ v1_ v2_ v3_ : Value, e = .returned (.agg #[v0_, v1_, v2_, v3_]) ∧ Kd.R (Kd.int .i64) 3 w' w.heap.size (fun _ => True) v0_ r1 ∧ Kd.R k84 84 w' w.heap.size (fun _ => True) v1_ r2 ∧ Kd.R k86 86 w' w.heap.size (fun _ => True) v2_ r3 ∧ Kd.R k73 73 w' w.heap.size (fun _ => True) v3_ r4 ∧ Below w.heap.size w w' := by
 have hu36 := Try.underlying36
 have HB := Aside0.mk (Below.refl w.heap.size w)
 have H := h
 unfold spec_StateNew.f at H
 clear h
 replace H := Option.bind_eq_some_iff.mp H
 obtain ⟨t378, A10, H⟩ := H
 (try dsimp only at H)
 have A1 := Aside0.mk A10
 clear A10
 simp only [Option.some.injEq, Prod.mk.injEq] at H
 obtain ⟨rfl, rfl, rfl, rfl⟩ := H
 go_enter Try.func87, Try.ntmps87
 go_wp2_with (first | ((with_reducible refine gate_dst (N := 0) rfl ?_); refine box_event ?hg (N := 0) ?hd (cs := #[.slice none 0 0, .slice none 0 0, .slice none 0 0, .slice none 0 0]) (t := 36) ?hr ?_; (case hd => rfl); (case hg => rfl); (case hr => first | (go_simp; done) | (go_simp; rfl)); intro gb377 hg w2 hbox hb; have BK377 := Aside0.mk (hbox); have GW377 := gw_ w z20_3 hg; have GE377 := gw_ w z20_3 hg; replace HB := Aside0.mk (below_step z20_3 hb); clear hb hbox hg) | ((with_reducible refine gate_callee (f := 118) rfl ?_); refine goesL_ (some 1) rfl rfl Try.func118 z20_7 rfl #[] rfl z20_12 ?_; (with_reducible refine (spec_KnowNew.calls  t378 _ A1.out).mono ?_); rintro e w3 ⟨v379, rfl, ho0, hb⟩; refine ⟨_, rfl, ?_⟩; have HO380 := Aside0.mk (Kd.R_lower ho0 (below_size z20_8)); replace BK377 := bb_ BK377 (by (with_reducible repeat (first | refine blk_drewN ?_ _ | refine blk_drew ?_ | refine blk_alloc ?_ _)); exact BK377.out) hb; replace HB := Aside0.mk (below_step z20_8 hb); (try clear ho0); obtain ⟨Ao4, co4, eo4⟩ := Kd.R_slice HO380.out; subst eo4; have hcz5 := bc4 BK377.out))
 refine bodyPost_ret (results_cell_row rfl _ _ gb377 36 #[.slice Ao4 t378.length co4, .slice none 0 0, .slice none 0 0, .slice none 0 0] (0, 0) _ rfl (by (with_reducible repeat (first | apply bpa4 | refine blk_drewN ?_ _ | refine blk_drew ?_ | refine blk_alloc ?_ _)); exact BK377.out) Try.underlying36 rfl z20_7) rfl ?_
 exact ⟨_, _, _, _, z20_10, by (with_reducible repeat (first | apply Kd.R_alloc | apply Kd.R_drewN | apply Kd.R_drew)); apply Kd.R_mono; (with_reducible repeat (first | apply Kd.R_far | apply Kd.R_alloc | apply Kd.R_drewN | apply Kd.R_drew)); exact Kd.R_types HO380.out BK377.out (by decide); all_goals (intro _ hk; first | exact trivial | exact hk.2 | trivial), z20_11, z20_11, z20_11, z20_8⟩
end Go.Proofs.Ytbanogkoaplcdaa.QSe
