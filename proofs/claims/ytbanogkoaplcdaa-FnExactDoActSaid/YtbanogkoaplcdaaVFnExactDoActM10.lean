/- Parts of the proof of FnExactDoAct, one behind the other. No condition. -/
import Derived.Test.YtbanogkoaplcdaaVFnExactDoActM9
namespace Go.Proofs.Ytbanogkoaplcdaa.QDo
open Go.RowKit Go.Proofs.Ytbanogkoaplcdaa.Auto Go.Proofs.Ytbanogkoaplcdaa.Lock Go.Proofs.Ytbanogkoaplcdaa.Short Go.Proofs.YtbanogkoaplcdaaW.PrintWords Go.Proofs.YtbanogkoaplcdaaW.PrintLast Go.Proofs.YtbanogkoaplcdaaW.PrintMore
attribute [local go_sem] max2_int min2_int max_two min_two max_three min_three max_four min_four   -- for this text's walks alone
set_option linter.unusedVariables false
set_option linter.unusedSimpArgs false
theorem z17_16 {P : Prop} (h : P := by first | rfl | (simp [errW_none, errW_some] <;> rfl) | (simp [*, errW_none, errW_some] <;> rfl)) : P := h
theorem z17_15 {P : Prop} (h : P := by repeat (first | exact Drawn0.refl _ | apply Drawn0.step)) : P := h
theorem z17_14 {P : Prop} (h : P := by repeat (first | (with_reducible first | exact HB.out | apply below_alloc | apply pw_below_drewN | apply below_drew1 | refine below_set ?_ GE416.out) | exact HB.out)) : P := h
theorem z17_13 {P : Prop} (h : P := by (with_reducible repeat (first | refine blk_drewN ?_ _ | refine blk_drew ?_ | refine blk_alloc ?_ _)); exact BK417.out) : P := h
theorem z17_12 {P : Prop} (h : P := by repeat (first | (with_reducible first | exact HB.out | apply below_alloc | apply pw_below_drewN | apply below_drew1 | refine below_set ?_ GE416.out | refine below_set ?_ GE417.out) | exact HB.out)) : P := h
theorem z17_11 {P : Prop} (h : P := by kernel_rfl) : P := h
theorem z17_9 {P : Prop} (h : P := by first | rfl | (simp only [List.map_toArray, List.map_cons, List.map_nil]; first | done | rfl)) : P := h
theorem z17_8 {P : Prop} (h : P := by first | rfl | (simp; done) | (simp [*]; done)) : P := h
theorem z17_7 {P : Prop} (h : P := by first | (with_reducible assumption) | assumption) : P := h
theorem z17_6 {P : Prop} (h : P := by repeat (first | (with_reducible first | exact HB.out | apply below_alloc | apply pw_below_drewN | apply below_drew1) | exact HB.out)) : P := h
theorem z17_5 {P : Prop} (h : P := by (with_reducible repeat (first | refine blk_drewN ?_ _ | refine blk_drew ?_ | refine blk_alloc ?_ _)); exact BK416.out) : P := h
theorem z17_3 {P : Prop} (h : P := by repeat (first | (with_reducible first | exact HB.out | apply below_alloc | apply pw_below_drewN | apply below_drew1 | refine below_set ?_ GE416.out | refine below_set ?_ GE417.out | refine below_set ?_ GE418.out) | exact HB.out)) : P := h
def spec_l07Cell.l0 : Nat → List (S73) → List (S73) → Bool → Int → ByteArray → Int → Int → Int → Int → Int → Int → Bool → Option ((List (S73)))
  | 0, _, _, _, _, _, _, _, _, _, _, _, _ => none
  | k + 1, x0, x5, x6, x7, x371000, x371001, x371002, x371003, x371004, x371005, x371006, x371007 => if x7 < (x0.length : Int) then (if x6 = true then (if 0 ≤ x7 then (if x5.length < 1954687338268 then (spec_l07Cell.l0 k x0 (x5 ++ [(⟨(rd_T73 x0 x7).f0, (⟨(rd_T73 x0 x7).f1.f0, (rd_T73 x0 x7).f1.f1⟩ : S38), (rd_T73 x0 x7).f2, (⟨(rd_T73 x0 x7).f3.f0, (rd_T73 x0 x7).f3.f1⟩ : S38), (rd_T73 x0 x7).f4, (rd_T73 x0 x7).f5⟩ : S73)]) x6 (wrap64 (x7 + 1)) x371000 x371001 x371002 x371003 x371004 x371005 x371006 x371007) else (none)) else (none)) else (if 0 ≤ x7 then ((spec_l06Before.f x371001 x371002 ((rd_T73 x0 x7).f1.f0) ((rd_T73 x0 x7).f1.f1)).bind fun t379 => (if t379 = true then (if x5.length < 1954687338268 then ((some (x5 ++ [(⟨x371000, (⟨x371001, x371002⟩ : S38), x371003, (⟨x371004, x371005⟩ : S38), x371006, x371007⟩ : S73)] : List (S73))).bind fun y380 => (if y380.length < 1954687338268 then (spec_l07Cell.l0 k x0 (y380 ++ [(⟨(rd_T73 x0 x7).f0, (⟨(rd_T73 x0 x7).f1.f0, (rd_T73 x0 x7).f1.f1⟩ : S38), (rd_T73 x0 x7).f2, (⟨(rd_T73 x0 x7).f3.f0, (rd_T73 x0 x7).f3.f1⟩ : S38), (rd_T73 x0 x7).f4, (rd_T73 x0 x7).f5⟩ : S73)]) true (wrap64 (x7 + 1)) x371000 x371001 x371002 x371003 x371004 x371005 x371006 x371007) else (none))) else (none)) else (if x5.length < 1954687338268 then (spec_l07Cell.l0 k x0 (x5 ++ [(⟨(rd_T73 x0 x7).f0, (⟨(rd_T73 x0 x7).f1.f0, (rd_T73 x0 x7).f1.f1⟩ : S38), (rd_T73 x0 x7).f2, (⟨(rd_T73 x0 x7).f3.f0, (rd_T73 x0 x7).f3.f1⟩ : S38), (rd_T73 x0 x7).f4, (rd_T73 x0 x7).f5⟩ : S73)]) x6 (wrap64 (x7 + 1)) x371000 x371001 x371002 x371003 x371004 x371005 x371006 x371007) else (none)))) else (none))) else (if x6 = true then (some x5) else (if x5.length < 1954687338268 then (some (x5 ++ [(⟨x371000, (⟨x371001, x371002⟩ : S38), x371003, (⟨x371004, x371005⟩ : S38), x371006, x371007⟩ : S73)])) else (none)))
def spec_l07Cell.f (k : Nat) (l0 : List (S73)) (a1_0 : ByteArray) (a1_1 : Int) (a1_2 : Int) (a1_3 : Int) (a1_4 : Int) (a1_5 : Int) (a1_6 : Int) (a1_7 : Bool) : Option ((List (S73))) := spec_l07Cell.l0 k l0 (([] : List (S73))) false 0 a1_0 a1_1 a1_2 a1_3 a1_4 a1_5 a1_6 a1_7
def spec_l07Cell.T6 : Bool × List (List Nat × List Nat) := (true, [([], []), ([0], [0]), ([1], [1]), ([2], [2]), ([3, 2], [2, 3]), ([2], [2]), ([2], [2]), ([5, 6, 2], [2, 5, 6]), ([7, 2], [2, 7]), ([8, 2], [2, 8]), ([4, 9, 2, 2], [2, 4, 9]), ([2, 10], [2, 10])])
theorem spec_l07Cell.tab6 : rtab .any (opsOf Try.f114 6) = spec_l07Cell.T6 := by kernel_rfl
set_option maxHeartbeats 8000000 in
set_option maxRecDepth 100000 in
theorem spec_l07Cell.calls (k : Nat) (A0 : Option Addr) (c0 : Nat) (l0 : List (S73)) (a1_0 : ByteArray) (a1_1 : Int) (a1_2 : Int) (a1_3 : Int) (a1_4 : Int) (a1_5 : Int) (a1_6 : Int) (a1_7 : Bool) (r : List (S73)) (w : World) (hr0 : Kd.C k73 w A0 l0.length l0) (hc0 : l0.length ≤ c0) (h : spec_l07Cell.f k l0 a1_0 a1_1 a1_2 a1_3 a1_4 a1_5 a1_6 a1_7 = some r) :
  Calls Try.prog 114 #[.slice A0 l0.length c0, .agg #[.string a1_0, .int .i64 a1_1, .int .i64 a1_2, .int .i64 a1_3, .int .i64 a1_4, .int .i64 a1_5, .int .i64 a1_6, .bool a1_7]] w fun e w' => ∃ v0_ : Value, e = .returned (v0_) ∧ Kd.R k73 73 w' w.heap.size (fun _ => True) v0_ r ∧ Below w.heap.size w w' := by
 have hu73 := Try.underlying73
 have hu38 := Try.underlying38
 have HR0 := Aside0.mk hr0
 have HC0 := Aside0.mk hc0
 clear hr0 hc0
 have HB := Aside0.mk (Below.refl w.heap.size w)
 have H' := Aside0.mk h
 clear h
 go_enter Try.func114, Try.ntmps114
 go_wp2_with (first
   | ((with_reducible refine gate_dst (N := 3) rfl ?_); refine bx_ (N := 3) ?_; intro g hg w1 hbox hb; have BK := Aside0.mk hbox; have GE := gw_ w zB hg; replace HB := Aside0.mk (below_step zB hb); clear hb hbox hg; have hcz := bc8 BK.out)
   | ((with_reducible refine gate_dst (N := 8) rfl ?_); refine rl_ k73 73 (N := 8) zB ?_; intro v1 w1 ho hb; have HO := Aside0.mk (Kd.R_mono ho (ok' := fun k => k ≠ g) (fun k hk => Kd.freshB zKf k hk.2)); replace BK := bb_ BK zKf hb; replace HB := Aside0.mk (below_step zB hb); clear ho hb))
 go_loopg [5, 6, 7] k (fun kq v5 v6 v7 w' => ∃ (x5_1 : List (S73)) (x6_1 : Bool) (x7_1 : Int), v6 = .bool x6_1 ∧ v7 = .int .i64 x7_1 ∧ Aside0 (spec_l07Cell.l0 kq l0 x5_1 x6_1 x7_1 a1_0 a1_1 a1_2 a1_3 a1_4 a1_5 a1_6 a1_7 = some r) ∧ Aside0 (kq ≤ k) ∧ Aside0 (Kd.R k73 73 w' w.heap.size (fun k_ => k_ ≠ g) v5 x5_1) ∧ Aside0 (w'.heap[g]? = some (.cells #[.string a1_0, .int .i64 a1_1, .int .i64 a1_2, .int .i64 a1_3, .int .i64 a1_4, .int .i64 a1_5, .int .i64 a1_6, .bool a1_7] 73 (0, 0))) ∧ Aside0 (Below w.heap.size w w'))
 case atStart => exact ⟨[], false, 0, zR, zR, H', ⟨Nat.le_refl _⟩, ⟨zO⟩, ⟨zKf⟩, ⟨zB⟩⟩
 case round =>
  clear H' BK HB HO hcz
  obtain ⟨xs, pt, x, rfl, rfl, HA, HK1, HO, BK, HB⟩ := hrel
  cases gk with
  | zero => exact absurd HA.out (by simp [spec_l07Cell.l0])
  | succ k1 =>
   have H := HA.out
   clear HA
   simp only [spec_l07Cell.l0] at H
   have hcz := bc8 BK.out
   replace H := ite_lt H
   rcases H with ⟨c, H⟩ | ⟨c, H⟩
   rotate_left
   ·
    repeat' (first
     | (refine none_o H; done)
     | ((with_reducible replace H := ite_t (by with_reducible assumption) H))
     | ((with_reducible replace H := ite_f (by with_reducible assumption) H))
     | ((with_reducible replace H := ite_n H); obtain ⟨LM, H⟩ := H)
     | ((with_reducible replace H := ite_lt H); rcases H with ⟨c1, H⟩ | ⟨c1, H⟩)
     | ((with_reducible replace H := ite_le H); rcases H with ⟨c1, H⟩ | ⟨c1, H⟩)
     | ((with_reducible replace H := ite_b H); rcases H with ⟨c1, H⟩ | ⟨c1, H⟩ <;> (fail_if_success subst c1))
     | ((with_reducible replace H := ite_ei H); rcases H with ⟨c1, H⟩ | ⟨c1, H⟩)
     | ((with_reducible replace H := ite_es H); rcases H with ⟨c1, H⟩ | ⟨c1, H⟩)
     | ((with_reducible replace H := bind_s H); (try dsimp only at H))
     | ((with_reducible replace H := bind_o H); obtain ⟨t, A, H⟩ := H; (try dsimp only at H))
     | ((with_reducible replace H := ite_b H); rcases H with ⟨rfl, H⟩ | ⟨rfl, H⟩))
    all_goals
     obtain rfl := Option.some.inj H
     go_wp2_with ((at_builtin; refine apk_ (ok := fun k => k ≠ g) mk73 Try.underlying34 info73 zO zF zB (below_size zB) (ap_n (by with_reducible assumption)) ?_; intro v1 w1 ho hb hg; replace BK := Aside0.mk (blk_grown zKf hg zG); replace HB := Aside0.mk hb; replace HO := Aside0.mk ho; clear ho hb hg))
     go_ret
     exact ⟨_, zT, zO, zB⟩
   replace H := ite_b H
   rcases H with ⟨rfl, H⟩ | ⟨rfl, H⟩
   all_goals
    replace H := ite_le H
    rcases H with ⟨c', H⟩ | ⟨c', H⟩
    rotate_left
    · exact none_o H
    obtain ⟨ad, e, hx⟩ := at_T73 HR0.out x (of_decide_eq_true c') (of_decide_eq_true c)
    cases e
    have p := eqt c
    have p' := eqt c'
    have hy := cb8 HB.out hx
    try go_wp2
    refine startr_ ⟨BK.out, HO.out, HB.out⟩ (fun w_ hHeld => ?_); refine with_tabW spec_l07Cell.tab6 (B := []) zK (fun HT_ HW_ => ?_)
    clear BK HO HB hcz hy
    repeat' (first
     | (refine none_o H; done)
     | ((with_reducible replace H := ite_t (by with_reducible assumption) H))
     | ((with_reducible replace H := ite_f (by with_reducible assumption) H))
     | ((with_reducible replace H := ite_n H); obtain ⟨LM, H⟩ := H)
     | ((with_reducible replace H := ite_lt H); rcases H with ⟨c1, H⟩ | ⟨c1, H⟩)
     | ((with_reducible replace H := ite_le H); rcases H with ⟨c1, H⟩ | ⟨c1, H⟩)
     | ((with_reducible replace H := ite_b H); rcases H with ⟨c1, H⟩ | ⟨c1, H⟩ <;> (fail_if_success subst c1))
     | ((with_reducible replace H := ite_ei H); rcases H with ⟨c1, H⟩ | ⟨c1, H⟩)
     | ((with_reducible replace H := ite_es H); rcases H with ⟨c1, H⟩ | ⟨c1, H⟩)
     | ((with_reducible replace H := bind_s H); (try dsimp only at H))
     | ((with_reducible replace H := bind_o H); obtain ⟨t, A, H⟩ := H; (try dsimp only at H))
     | refine us_ ?_ | refine ps_ ?_ | refine ts_ hHeld ?_ (hv := by intro w' hs; have hc_ := bc8 hs.1; (try have hy_ := cb8 hs.2.2 hx); go_simp; with_reducible rfl)
     | (refine done_ (done_of HT_.out (by kernel_rfl)) ?_; have BK := Aside0.mk hHeld.1; have HO := Aside0.mk hHeld.2.1; have HB := Aside0.mk hHeld.2.2; (try simp only [World.drewN_drewN] at BK HO HB); have hcz := bc8 BK.out; have hy := cb8 HB.out hx; have H' := Aside0.mk H; clear H; (try go_wp2_with ((at_builtin; refine apk_ (ok := fun k => k ≠ g) mk73 Try.underlying34 info73 zO zF zB (below_size zB) (ap_n (by with_reducible assumption)) ?_; intro v1 w1 ho hb hg; replace BK := Aside0.mk (blk_grown zKf hg zG); replace HB := Aside0.mk hb; replace HO := Aside0.mk ho; clear ho hb hg; have hcz := bc8 BK.out; have hy := cb8 HB.out hx))); go_roundg k1; (case measure => exact zM); (case rel => exact ⟨_, _, _, zR, zR, H', ⟨zM⟩, ⟨zO⟩, ⟨zKf⟩, ⟨zB⟩⟩))
     | (first
        | refine oc_ Try.func105 (spec_l06Before.calls _ _ _ _ _ _) zPb ?_
        clear hHeld; intro w_ hHeld)
     | ((with_reducible replace H := ite_b H); rcases H with ⟨rfl, H⟩ | ⟨rfl, H⟩))
def laws_toAct.f (k : Nat) (a0_0 : Int) (a0_1 : Int) (a0_2 : Int) (l0_3 : List Int) (a0_4 : Int) (a0_5 : ByteArray) (a0_6 : ByteArray) (a0_7 : Int) (a0_8 : Int) (a0_9 : Int) : Option (Int × Int × Int × List Int × Int × ByteArray × ByteArray × Int × Int × Int) := (laws_toDot.f a0_0 a0_1).bind fun bt419 => ((laws_toIntS.f k l0_3).bind fun t421 => ((laws_toDot.f a0_8 a0_9).bind fun bt424 => (some (bt419.1, bt419.2, a0_2, t421, a0_4, a0_5, a0_6, a0_7, bt424.1, bt424.2))))
set_option maxHeartbeats 8000000 in
set_option maxRecDepth 100000 in
theorem laws_toAct.calls (k : Nat) (a0_0 : Int) (a0_1 : Int) (a0_2 : Int) (A0_3 : Option Addr) (c0_3 : Nat) (l0_3 : List Int) (a0_4 : Int) (a0_5 : ByteArray) (a0_6 : ByteArray) (a0_7 : Int) (a0_8 : Int) (a0_9 : Int) (r1 : Int) (r2 : Int) (r3 : Int) (r4 : List Int) (r5 : Int) (r6 : ByteArray) (r7 : ByteArray) (r8 : Int) (r9 : Int) (r10 : Int) (w : World) (hr0_3 : Kd.C (Kd.int .i64) w A0_3 l0_3.length l0_3) (hc0_3 : l0_3.length ≤ c0_3) (h : laws_toAct.f k a0_0 a0_1 a0_2 l0_3 a0_4 a0_5 a0_6 a0_7 a0_8 a0_9 = some (r1, r2, r3, r4, r5, r6, r7, r8, r9, r10)) :
  Calls Try.prog 21 #[.agg #[.int .i64 a0_0, .int .i64 a0_1, .int .i64 a0_2, .slice A0_3 l0_3.length c0_3, .int .i64 a0_4, .string a0_5, .string a0_6, .int .i64 a0_7, .int .i64 a0_8, .int .i64 a0_9]] w fun e w' => ∃ v3_ : Value, e = .returned (.agg #[.int .i64 r1, .int .i64 r2, .int .i64 r3, v3_, .int .i64 r5, .string r6, .string r7, .int .i64 r8, .int .i64 r9, .int .i64 r10]) ∧ Kd.R (Kd.int .i64) 3 w' w.heap.size (fun _ => True) v3_ r4 ∧ Below w.heap.size w w' := by
 have hu46 := Try.underlying46
 have hu51 := Try.underlying51
 have hu29 := Try.underlying29
 have hu38 := Try.underlying38
 have HR0_3 := Aside0.mk hr0_3
 have HC0_3 := Aside0.mk hc0_3
 clear hr0_3 hc0_3
 have HB := Aside0.mk (Below.refl w.heap.size w)
 have H := h
 unfold laws_toAct.f at H
 clear h
 replace H := Option.bind_eq_some_iff.mp H
 obtain ⟨⟨t419, t420⟩, A20, H⟩ := H
 (try dsimp only at H)
 have A2 := Aside0.mk A20
 clear A20
 replace H := Option.bind_eq_some_iff.mp H
 obtain ⟨t421, A30, H⟩ := H
 (try dsimp only at H)
 have A3 := Aside0.mk A30
 clear A30
 replace H := Option.bind_eq_some_iff.mp H
 obtain ⟨⟨t424, t425⟩, A40, H⟩ := H
 (try dsimp only at H)
 have A4 := Aside0.mk A40
 clear A40
 simp only [Option.some.injEq, Prod.mk.injEq] at H
 obtain ⟨rfl, rfl, rfl, rfl, rfl, rfl, rfl, rfl, rfl, rfl⟩ := H
 go_enter Try.func21, Try.ntmps21
 go_wp2_with (first | ((with_reducible refine gate_dst (N := 1) rfl ?_); refine box_event ?hg (N := 1) ?hd (cs := #[.int .i64 a0_0, .int .i64 a0_1, .int .i64 a0_2, .slice A0_3 l0_3.length c0_3, .int .i64 a0_4, .string a0_5, .string a0_6, .int .i64 a0_7, .int .i64 a0_8, .int .i64 a0_9]) (t := 46) ?hr ?_; (case hd => rfl); (case hg => rfl); (case hr => first | (go_simp; done) | (go_simp; rfl)); intro gb416 hg w5 hbox hb; have BK416 := Aside0.mk (hbox); have GW416 := gw_ w z17_6 hg; have GE416 := gw_ w z17_6 hg; replace HB := Aside0.mk (below_step z17_6 hb); clear hb hbox hg) | ((with_reducible refine gate_dst (N := 2) rfl ?_); refine box_event ?hg (N := 2) ?hd (cs := #[.int .i64 0, .int .i64 0, .int .i64 0, .slice none 0 0, .int .i64 0, .string (⟨#[]⟩ : ByteArray), .string (⟨#[]⟩ : ByteArray), .int .i64 0, .int .i64 0, .int .i64 0]) (t := 51) ?hr ?_; (case hd => rfl); (case hg => rfl); (case hr => first | (go_simp; done) | (go_simp; rfl)); intro gb417 hg w6 hbox hb; have BK417 := Aside0.mk (hbox); have GW417 := gw_ w z17_14 hg; have GE417 := gw_ w z17_14 hg; replace HB := Aside0.mk (below_step z17_14 hb); have NB416_417 := nb_ BK416 z17_5 hg; have NB417_416 := nc_ BK416 z17_5 hg; replace BK416 := bb_ BK416 z17_5 hb; clear hb hbox hg) | ((with_reducible refine gate_dst (N := 3) rfl ?_); refine box_event ?hg (N := 3) ?hd (cs := #[.int .i64 0, .int .i64 0, .int .i64 0, .slice none 0 0, .int .i64 0, .string (⟨#[]⟩ : ByteArray), .string (⟨#[]⟩ : ByteArray), .int .i64 0, .int .i64 0, .int .i64 0]) (t := 51) ?hr ?_; (case hd => rfl); (case hg => rfl); (case hr => first | (go_simp; done) | (go_simp; rfl)); intro gb418 hg w7 hbox hb; have BK418 := Aside0.mk (hbox); have GW418 := gw_ w z17_12 hg; have GE418 := gw_ w z17_12 hg; replace HB := Aside0.mk (below_step z17_12 hb); have NB416_418 := nb_ BK416 z17_5 hg; have NB418_416 := nc_ BK416 z17_5 hg; replace BK416 := bb_ BK416 z17_5 hb; have NB417_418 := nb_ BK417 z17_13 hg; have NB418_417 := nc_ BK417 z17_13 hg; replace BK417 := bb_ BK417 z17_13 hb; clear hb hbox hg; have hnb8 := NB416_417.out; have hnc8 := NB417_416.out; have hnb9 := NB416_418.out; have hnc9 := NB418_416.out; have hcz10 := bc10 BK416.out) | ((with_reducible refine gate_callee (f := 12) rfl ?_); refine goesL_ (some 6) rfl rfl Try.func12 z17_11 rfl #[.agg #[.int .i64 a0_0, .int .i64 a0_1]] rfl z17_9 ?_; (with_reducible refine (laws_toDot.calls a0_0 a0_1 t419 t420 _ A2.out).mono ?_); rintro e w11 ⟨rfl, hb⟩; refine ⟨_, rfl, ?_⟩; replace BK416 := bb_ BK416 z17_5 hb; replace BK417 := bb_ BK417 z17_13 hb; replace BK418 := bb_ BK418 (by (with_reducible repeat (first | refine blk_drewN ?_ _ | refine blk_drew ?_ | refine blk_alloc ?_ _)); exact BK418.out) hb; replace HB := Aside0.mk (below_step z17_3 hb); have hnb12 := NB418_417.out; have hnc12 := NB417_418.out; have hcz13 := bc10 BK418.out; have hcz14 := bc10 BK416.out) | ((with_reducible refine gate_callee (f := 42) rfl ?_); refine goesL_ (some 13) rfl rfl Try.func42 z17_11 rfl #[.slice A0_3 l0_3.length c0_3] rfl z17_9 ?_; (with_reducible refine (laws_toIntS.calls k _ _ l0_3 t421 _ ?side1 ?side2 A3.out).mono ?_); (case side1 => exact Kd.C_below HR0_3.out z17_3); (case side2 => exact HC0_3.out); rintro e w15 ⟨v422, rfl, ho0, hb⟩; refine ⟨_, rfl, ?_⟩; have HO423 := Aside0.mk (Kd.R_lower ho0 (below_size z17_3)); replace BK416 := bb_ BK416 (by (with_reducible repeat (first | apply blk_far (hp := NB416_418.out) | refine blk_drewN ?_ _ | refine blk_drew ?_ | refine blk_alloc ?_ _)); exact BK416.out) hb; replace BK417 := bb_ BK417 (by (with_reducible repeat (first | apply blk_far (hp := NB417_418.out) | refine blk_drewN ?_ _ | refine blk_drew ?_ | refine blk_alloc ?_ _)); exact BK417.out) hb; replace BK418 := Aside0.mk (blk_below (g := gb418) (o := .cells #[.int .i64 t419, .int .i64 t420, .int .i64 a0_2, .slice none 0 0, .int .i64 0, .string (⟨#[]⟩ : ByteArray), .string (⟨#[]⟩ : ByteArray), .int .i64 0, .int .i64 0, .int .i64 0] 51 (0, 0)) (by (with_reducible repeat (first | apply bp10_2 | apply bp10_1 | apply bp10_0 | refine blk_drewN ?_ _ | refine blk_drew ?_ | refine blk_alloc ?_ _)); exact BK418.out) hb); replace HB := Aside0.mk (below_step z17_3 hb); (try clear ho0); obtain ⟨Ao16, co16, eo16⟩ := Kd.R_slice HO423.out; subst eo16; have hcz17 := bc10 BK418.out; have hcz18 := bc10 BK416.out) | ((with_reducible refine gate_callee (f := 12) rfl ?_); refine goesL_ (some 29) rfl rfl Try.func12 z17_11 rfl #[.agg #[.int .i64 a0_8, .int .i64 a0_9]] rfl z17_9 ?_; (with_reducible refine (laws_toDot.calls a0_8 a0_9 t424 t425 _ A4.out).mono ?_); rintro e w19 ⟨rfl, hb⟩; refine ⟨_, rfl, ?_⟩; replace HO423 := Aside0.mk (Kd.R_below (by (with_reducible repeat (first | apply Kd.R_alloc | apply Kd.R_drewN | apply Kd.R_drew)); exact (Kd.R_mono (Kd.R_far (p := ⟨gb418, 7, none⟩) (Kd.R_far (p := ⟨gb418, 6, none⟩) (Kd.R_far (p := ⟨gb418, 5, none⟩) (Kd.R_far (p := ⟨gb418, 4, none⟩) (Kd.R_far (p := ⟨gb418, 3, none⟩) (Kd.R_types HO423.out BK418.out (by decide)) (fun _ hk => by first | exact hk.2 | trivial) (.slice Ao16 t421.length co16)) (fun _ hk => by first | exact hk.2 | trivial) (.int .i64 a0_4)) (fun _ hk => by first | exact hk.2 | trivial) (.string a0_5)) (fun _ hk => by first | exact hk.2 | trivial) (.string a0_6)) (fun _ hk => by first | exact hk.2 | trivial) (.int .i64 a0_7)) (fun _ h_ => h_.1))) hb); replace BK416 := bb_ BK416 (by (with_reducible repeat (first | apply blk_far (hp := NB416_418.out) | refine blk_drewN ?_ _ | refine blk_drew ?_ | refine blk_alloc ?_ _)); exact BK416.out) hb; replace BK417 := bb_ BK417 (by (with_reducible repeat (first | apply blk_far (hp := NB417_418.out) | refine blk_drewN ?_ _ | refine blk_drew ?_ | refine blk_alloc ?_ _)); exact BK417.out) hb; replace BK418 := Aside0.mk (blk_below (g := gb418) (o := .cells #[.int .i64 t419, .int .i64 t420, .int .i64 a0_2, .slice Ao16 t421.length co16, .int .i64 a0_4, .string a0_5, .string a0_6, .int .i64 a0_7, .int .i64 0, .int .i64 0] 51 (0, 0)) (by (with_reducible repeat (first | apply bp10_7 | apply bp10_6 | apply bp10_5 | apply bp10_4 | apply bp10_3 | refine blk_drewN ?_ _ | refine blk_drew ?_ | refine blk_alloc ?_ _)); exact BK418.out) hb); replace HB := Aside0.mk (below_step z17_3 hb); have hcz20 := bc10 BK418.out; have hcz21 := bc10 BK417.out))
 refine bodyPost_ret (results_cell_row rfl _ _ gb417 51 #[.int .i64 t419, .int .i64 t420, .int .i64 a0_2, .slice Ao16 t421.length co16, .int .i64 a0_4, .string a0_5, .string a0_6, .int .i64 a0_7, .int .i64 t424, .int .i64 t425] (0, 0) _ rfl (by (with_reducible repeat (first | apply bpa10 | apply blk_far (hp := NB417_418.out) | refine blk_drewN ?_ _ | refine blk_drew ?_ | refine blk_alloc ?_ _)); exact BK417.out) Try.underlying51 rfl z17_11) rfl ?_
 exact ⟨_, z17_16, by (with_reducible repeat (first | apply Kd.R_alloc | apply Kd.R_drewN | apply Kd.R_drew)); apply Kd.R_mono; (with_reducible repeat (first | apply Kd.R_far | apply Kd.R_alloc | apply Kd.R_drewN | apply Kd.R_drew)); exact Kd.R_types (Kd.R_types HO423.out BK418.out (by decide)) BK417.out (by decide); all_goals (intro _ hk; first | exact trivial | exact hk.2 | trivial | exact hk.1.2), z17_3⟩
def impl_within.f (a0 : Int) (a1 : Int) (a2 : Int) : Option (Bool) := if a0 ≥ a1 then (some (decide (a0 ≤ a2))) else (some false)
set_option maxHeartbeats 8000000 in
set_option maxRecDepth 100000 in
theorem impl_within.calls (a0 : Int) (a1 : Int) (a2 : Int) (r : Bool) (w : World) (h : impl_within.f a0 a1 a2 = some r) :
  Calls Try.prog 106 #[.int .i64 a0, .int .i64 a1, .int .i64 a2] w fun e w' => e = .returned (.bool r) ∧ Drawn0 w w' := by
 have H : (if a0 ≥ a1 then (some (decide (a0 ≤ a2))) else (some false)) = some r := h
 clear h
 by_cases c4 : a0 ≥ a1
 ·
  rw [if_pos c4] at H
  have c4b0 : decide (a1 ≤ a0) = true := decide_eq_true c4
  clear c4
  obtain rfl := Option.some.inj H
  go_enter Try.func106, Try.ntmps106
  go_wp2
  go_ret
  exact ⟨z17_8, z17_15⟩
 rw [if_neg c4] at H
 have c4b0 : decide (a1 ≤ a0) = false := decide_eq_false c4
 clear c4
 obtain rfl := Option.some.inj H
 go_enter Try.func106, Try.ntmps106
 go_wp2
 go_ret
 exact ⟨z17_8, z17_15⟩
def impl_KnowOk.l0 : Nat → List Int → List Int → Int → Int → Option (Bool)
  | 0, _, _, _, _ => none
  | k + 1, x0, x5, x6, x7 => if x7 < x6 then (if 0 ≤ x7 then (if x7 < (x5.length : Int) then ((impl_within.f (rd x5 x7) 0 1000).bind fun t427 => (if t427 = true then (impl_KnowOk.l0 k x0 x5 x6 (wrap64 (x7 + 1))) else (some false))) else (none)) else (none)) else (some ((x0.length : Int) == 3))
def impl_KnowOk.f (k : Nat) (l0 : List Int) : Option (Bool) := impl_KnowOk.l0 k l0 l0 (l0.length : Int) 0
set_option maxHeartbeats 8000000 in
set_option maxRecDepth 100000 in
theorem impl_KnowOk.calls (k : Nat) (A0 : Option Addr) (c0 : Nat) (l0 : List Int) (r : Bool) (w : World) (hr0 : Kd.C (Kd.int .i64) w A0 l0.length l0) (hc0 : l0.length ≤ c0) (h : impl_KnowOk.f k l0 = some r) :
  Calls Try.prog 61 #[.slice A0 l0.length c0] w fun e w' => e = .returned (.bool r) ∧ Drawn0 w w' := by
 have HR0 := Aside0.mk hr0
 have HC0 := Aside0.mk hc0
 clear hr0 hc0
 have H := h
 unfold impl_KnowOk.f at H
 clear h
 have H' := Aside0.mk H
 clear H
 go_enter Try.func61, Try.ntmps61
 go_wp2
 go_loopg [7] k (fun kq v7 w' => ∃ (x7_1 : Int), v7 = .int .i64 x7_1 ∧ Aside0 (impl_KnowOk.l0 kq l0 l0 (l0.length : Int) x7_1 = some r) ∧ Aside0 (kq ≤ k) ∧ Drawn0 w w')
 case atStart => exact ⟨(0), z17_8, H', ⟨Nat.le_refl _⟩, z17_15⟩
 case round =>
  clear H'
  obtain ⟨x7_1, rfl, HA, HK1, ⟨m1, rfl⟩⟩ := hrel
  cases gk with
  | zero => exact absurd HA.out (by simp [impl_KnowOk.l0])
  | succ k1 =>
   have H := HA.out
   clear HA
   simp only [impl_KnowOk.l0] at H
   by_cases c2 : x7_1 < (l0.length : Int)
   rotate_left
   ·
    rw [if_neg c2] at H
    have c2b0 : decide (x7_1 < (l0.length : Int)) = false := decide_eq_false c2
    clear c2
    obtain rfl := Option.some.inj H
    go_wp2
    go_ret
    exact ⟨z17_8, z17_15⟩
   rw [if_pos c2] at H
   have c2b0 : decide (x7_1 < (l0.length : Int)) = true := decide_eq_true c2
   clear c2
   by_cases c3 : 0 ≤ x7_1
   rotate_left
   ·
    rw [if_neg c3] at H
    exact absurd H (by simp)
   rw [if_pos c3] at H
   have c3b0 : decide (0 ≤ x7_1) = true := decide_eq_true c3
   clear c3
   by_cases c4 : x7_1 < (l0.length : Int)
   rotate_left
   ·
    rw [if_neg c4] at H
    exact absurd H (by simp)
   rw [if_pos c4] at H
   have c4b0 : decide (x7_1 < (l0.length : Int)) = true := decide_eq_true c4
   clear c4
   replace H := Option.bind_eq_some_iff.mp H
   obtain ⟨t427, A50, H⟩ := H
   (try dsimp only at H)
   have A5 := Aside0.mk A50
   clear A50
   by_cases c6 : t427 = true
   rotate_left
   ·
    replace c6 := Bool.eq_false_iff.mpr c6
    subst c6
    rw [if_neg (show ¬ (false = true) by decide)] at H
    obtain rfl := Option.some.inj H
    have p426 : 0 ≤ (x7_1 : Int) := of_decide_eq_true z17_7
    have q426 : x7_1 < (l0.length : Int) := of_decide_eq_true z17_7
    obtain ⟨ad426, e426, hx426_0⟩ := Kd.at_int HR0.out x7_1 p426 q426
    cases e426
    replace p426 := eq_true p426
    replace q426 := eq_true q426
    go_wp2_with (first | ((with_reducible refine gate_callee (f := 106) rfl ?_); refine goesL_ (some 12) rfl rfl Try.func106 z17_11 rfl #[.int .i64 (rd l0 x7_1), .int .i64 0, .int .i64 1000] rfl z17_9 ?_; (with_reducible refine (impl_within.calls (rd l0 x7_1) 0 1000 false _ A5.out).mono ?_); rintro e w' ⟨rfl, ⟨nd, rfl⟩⟩; refine ⟨_, rfl, ?_⟩))
    go_ret
    exact ⟨z17_8, z17_15⟩
   subst c6
   rw [if_pos rfl] at H
   have H' := Aside0.mk H
   clear H
   have p426 : 0 ≤ (x7_1 : Int) := of_decide_eq_true z17_7
   have q426 : x7_1 < (l0.length : Int) := of_decide_eq_true z17_7
   obtain ⟨ad426, e426, hx426_0⟩ := Kd.at_int HR0.out x7_1 p426 q426
   cases e426
   replace p426 := eq_true p426
   replace q426 := eq_true q426
   go_wp2_with (first | ((with_reducible refine gate_callee (f := 106) rfl ?_); refine goesL_ (some 12) rfl rfl Try.func106 z17_11 rfl #[.int .i64 (rd l0 x7_1), .int .i64 0, .int .i64 1000] rfl z17_9 ?_; (with_reducible refine (impl_within.calls (rd l0 x7_1) 0 1000 true _ A5.out).mono ?_); rintro e w' ⟨rfl, ⟨nd, rfl⟩⟩; refine ⟨_, rfl, ?_⟩))
   go_roundg k1
   case measure => have := HK1.out; omega
   case rel => exact ⟨(wrap64 (x7_1 + 1)), z17_8, H', ⟨by have := HK1.out; omega⟩, z17_15⟩
end Go.Proofs.Ytbanogkoaplcdaa.QDo
