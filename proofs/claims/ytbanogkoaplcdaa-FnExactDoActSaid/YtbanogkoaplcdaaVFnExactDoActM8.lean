/- Parts of the proof of FnExactDoAct, one behind the other. No condition. -/
import Derived.Test.YtbanogkoaplcdaaVFnExactDoActM3
import Derived.Test.YtbanogkoaplcdaaVFnExactDoActM7
namespace Go.Proofs.Ytbanogkoaplcdaa.QDo
open Go.RowKit Go.Proofs.Ytbanogkoaplcdaa.Auto Go.Proofs.Ytbanogkoaplcdaa.Lock Go.Proofs.Ytbanogkoaplcdaa.Short Go.Proofs.YtbanogkoaplcdaaW.PrintWords Go.Proofs.YtbanogkoaplcdaaW.PrintLast Go.Proofs.YtbanogkoaplcdaaW.PrintMore
attribute [local go_sem] max2_int min2_int max_two min_two max_three min_three max_four min_four   -- for this text's walks alone
set_option linter.unusedVariables false
set_option linter.unusedSimpArgs false
attribute [local go_sem high] eqA38
theorem z6_16 {P : Prop} (h : P := by (with_reducible repeat (first | refine blk_drewN ?_ _ | refine blk_drew ?_ | refine blk_alloc ?_ _)); exact BK216.out) : P := h
theorem z6_15 {P : Prop} (h : P := by first | rfl | (simp; done) | (simp [*]; done)) : P := h
theorem z6_14 {P : Prop} (h : P := by kernel_rfl) : P := h
theorem z6_12 {P : Prop} (h : P := by repeat (first | (with_reducible first | exact HB.out | apply below_alloc | apply pw_below_drewN | apply below_drew1 | refine below_set ?_ GE213.out) | exact HB.out)) : P := h
theorem z6_11 {P : Prop} (h : P := by first | (with_reducible assumption) | assumption) : P := h
theorem z6_10 {P : Prop} (h : P := by repeat (first | (with_reducible first | exact HB.out | apply below_alloc | apply pw_below_drewN | apply below_drew1 | refine below_set ?_ GE215.out | refine below_set ?_ GE216.out) | exact HB.out)) : P := h
theorem z6_8 {P : Prop} (h : P := by (with_reducible repeat (first | refine blk_drewN ?_ _ | refine blk_drew ?_ | refine blk_alloc ?_ _)); exact BK215.out) : P := h
theorem z6_7 {P : Prop} (h : P := by first | rfl | (simp [errW_none, errW_some] <;> rfl) | (simp [*, errW_none, errW_some] <;> rfl)) : P := h
theorem z6_6 {P : Prop} (h : P := by repeat (first | (with_reducible first | exact HB.out | apply below_alloc | apply pw_below_drewN | apply below_drew1 | refine below_set ?_ GE215.out) | exact HB.out)) : P := h
theorem z6_5 {P : Prop} (h : P := by first | rfl | (simp only [List.map_toArray, List.map_cons, List.map_nil]; first | done | rfl)) : P := h
theorem z6_0 {P : Prop} (h : P := by repeat (first | (with_reducible first | exact HB.out | apply below_alloc | apply pw_below_drewN | apply below_drew1) | exact HB.out)) : P := h
theorem z6_23 {P : Prop} (h : P := by repeat (first | exact (Kd.C_below HR0_3.out HB.out) | (with_reducible refine Kd.C_alloc ?_ _) | (with_reducible refine Kd.C_drewN ?_ _) | (with_reducible refine Kd.C_drew ?_))) : P := h
def laws_eqCellS.l0 : Nat → List (S73) → List (S73) → Int → Option (Bool)
  | 0, _, _, _ => none
  | k + 1, x0, x1, x5 => if x5 < (x0.length : Int) then (if 0 ≤ x5 then (if x5 < (x1.length : Int) then ((laws_eqCell.f ((rd_T73 x0 x5).f0) ((rd_T73 x0 x5).f1.f0) ((rd_T73 x0 x5).f1.f1) ((rd_T73 x0 x5).f2) ((rd_T73 x0 x5).f3.f0) ((rd_T73 x0 x5).f3.f1) ((rd_T73 x0 x5).f4) ((rd_T73 x0 x5).f5) ((rd_T73 x1 x5).f0) ((rd_T73 x1 x5).f1.f0) ((rd_T73 x1 x5).f1.f1) ((rd_T73 x1 x5).f2) ((rd_T73 x1 x5).f3.f0) ((rd_T73 x1 x5).f3.f1) ((rd_T73 x1 x5).f4) ((rd_T73 x1 x5).f5)).bind fun t206 => (if t206 = true then (laws_eqCellS.l0 k x0 x1 (wrap64 (x5 + 1))) else (some false))) else (none)) else (none)) else (some true)
def laws_eqCellS.f (k : Nat) (l0 : List (S73)) (l1 : List (S73)) : Option (Bool) := if (l0.length : Int) = (l1.length : Int) then (laws_eqCellS.l0 k l0 l1 0) else (some false)
def laws_eqCellS.T6 : Bool × List (List Nat × List Nat) := (true, [([], []), ([], []), ([0, 1], [0, 1]), ([2], [2]), ([], []), ([], []), ([4, 5], [4, 5]), ([6], [6]), ([3, 7], [3, 7]), ([8], [8])])
theorem laws_eqCellS.tab6 : rtab .any (opsOf Try.f50 6) = laws_eqCellS.T6 := by kernel_rfl
set_option maxHeartbeats 8000000 in
set_option maxRecDepth 100000 in
theorem laws_eqCellS.calls (k : Nat) (A0 : Option Addr) (c0 : Nat) (l0 : List (S73)) (A1 : Option Addr) (c1 : Nat) (l1 : List (S73)) (r : Bool) (w : World) (hr0 : Kd.C k73 w A0 l0.length l0) (hc0 : l0.length ≤ c0) (hr1 : Kd.C k73 w A1 l1.length l1) (hc1 : l1.length ≤ c1) (h : laws_eqCellS.f k l0 l1 = some r) :
  Calls Try.prog 50 #[.slice A0 l0.length c0, .slice A1 l1.length c1] w fun e w' => e = .returned (.bool r) ∧ Below w.heap.size w w' := by
 have hu73 := Try.underlying73
 have HR0 := Aside0.mk hr0
 have HC0 := Aside0.mk hc0
 clear hr0 hc0
 have HR1 := Aside0.mk hr1
 have HC1 := Aside0.mk hc1
 clear hr1 hc1
 have HB := Aside0.mk (Below.refl w.heap.size w)
 have H := h
 clear h
 unfold laws_eqCellS.f at H
 replace H := ite_ei H
 rcases H with ⟨c0', H⟩ | ⟨c0', H⟩
 rotate_left
 ·
  obtain rfl := Option.some.inj H
  go_enter Try.func50, Try.ntmps50
  go_wp2
  go_ret
  exact ⟨zT, zB⟩
 have H' := Aside0.mk H
 clear H
 go_enter Try.func50, Try.ntmps50
 go_wp2
 clear c0'
 go_loopg [5] k (fun kq v5 w' => ∃ (x5_1 : Int), v5 = .int .i64 x5_1 ∧ Aside0 (laws_eqCellS.l0 kq l0 l1 x5_1 = some r) ∧ Aside0 (kq ≤ k) ∧ Aside0 (Below w.heap.size w w'))
 case atStart => exact ⟨0, zR, H', ⟨Nat.le_refl _⟩, ⟨zB⟩⟩
 case round =>
  clear H'
  obtain ⟨x5_1, rfl, HA, HK1, HB⟩ := hrel
  cases gk with
  | zero => exact absurd HA.out (by simp [laws_eqCellS.l0])
  | succ k1 =>
   have H := HA.out
   clear HA
   simp only [laws_eqCellS.l0] at H
   replace H := ite_lt H
   rcases H with ⟨c, H⟩ | ⟨c, H⟩
   rotate_left
   ·
    obtain rfl := Option.some.inj H
    go_wp2
    go_ret
    exact ⟨zT, zB⟩
   replace H := ite_le H
   rcases H with ⟨c', H⟩ | ⟨c', H⟩
   rotate_left
   · exact none_o H
   obtain ⟨ad, e, hx⟩ := at_T73 HR0.out x5_1 (of_decide_eq_true c') (of_decide_eq_true c)
   cases e
   have p := eqt c
   have p' := eqt c'
   replace H := ite_lt H
   rcases H with ⟨c1', H⟩ | ⟨c1', H⟩
   rotate_left
   · exact none_o H
   obtain ⟨ad1, e1, hz⟩ := at_T73 HR1.out x5_1 (of_decide_eq_true c') (of_decide_eq_true c1')
   cases e1
   have p1 := eqt c1'
   go_wp2
   refine start0_ HB.out (fun w_ hHeld => ?_); refine with_tabW laws_eqCellS.tab6 (B := []) zK (fun HT_ HW_ => ?_)
   clear HB
   repeat' (first
    | (refine none_o H; done)
    | ((with_reducible replace H := ite_t (by with_reducible assumption) H))
    | ((with_reducible replace H := ite_f (by with_reducible assumption) H))
    | ((with_reducible replace H := ite_lt H); rcases H with ⟨c1, H⟩ | ⟨c1, H⟩)
    | ((with_reducible replace H := ite_le H); rcases H with ⟨c1, H⟩ | ⟨c1, H⟩)
    | ((with_reducible replace H := ite_b H); rcases H with ⟨c1, H⟩ | ⟨c1, H⟩ <;> (fail_if_success subst c1))
    | ((with_reducible replace H := ite_ei H); rcases H with ⟨c1, H⟩ | ⟨c1, H⟩)
    | ((with_reducible replace H := ite_es H); rcases H with ⟨c1, H⟩ | ⟨c1, H⟩)
    | ((with_reducible replace H := bind_s H); (try dsimp only at H))
    | ((with_reducible replace H := bind_o H); obtain ⟨t, A, H⟩ := H; (try dsimp only at H))
    | refine us_ ?_ | refine ps_ ?_ | refine ts_ hHeld ?_ (hv := by intro w' hs; have hy_ := cb8 hs hx; have hz_ := cb8 hs hz; go_simp; with_reducible rfl)
    | (refine done_ (done_of HT_.out (by kernel_rfl)) ?_; have HB := Aside0.mk hHeld; (try simp only [World.drewN_drewN] at HB); (first | (obtain rfl := Option.some.inj H; (try go_wp2); go_ret; exact ⟨rfl, HB.out⟩) | (have H' := Aside0.mk H; clear H; (try go_wp2); go_roundg k1; (case measure => exact zM); (case rel => exact ⟨_, zR, H', ⟨zM⟩, ⟨HB.out⟩⟩))))
    | (first
       | refine oc_ Try.func101 (laws_eqCell.calls _ _ _ _ _ _ _ _ _ _ _ _ _ _ _ _ _ _) zPb ?_
       clear hHeld; intro w_ hHeld)
    | ((with_reducible replace H := ite_b H); rcases H with ⟨rfl, H⟩ | ⟨rfl, H⟩))
def laws_eqState.f (k : Nat) (l0_0 : List Int) (l0_1 : List (S84)) (l0_2 : List (S86)) (l0_3 : List (S73)) (l1_0 : List Int) (l1_1 : List (S84)) (l1_2 : List (S86)) (l1_3 : List (S73)) : Option (Bool) := (laws_eqIntS.f k l0_0 l1_0).bind fun t209 => (if t209 = true then ((laws_eqTallyS.f k l0_1 l1_1).bind fun t210 => (if t210 = true then ((laws_eqLiveS.f k l0_2 l1_2).bind fun t211 => (if t211 = true then ((laws_eqCellS.f k l0_3 l1_3).bind fun t212 => (if t212 = true then (some true) else (some false))) else (some false))) else (some false))) else (some false))
set_option maxHeartbeats 8000000 in
set_option maxRecDepth 100000 in
theorem laws_eqState.calls (k : Nat) (A0_0 : Option Addr) (c0_0 : Nat) (l0_0 : List Int) (A0_1 : Option Addr) (c0_1 : Nat) (l0_1 : List (S84)) (A0_2 : Option Addr) (c0_2 : Nat) (l0_2 : List (S86)) (A0_3 : Option Addr) (c0_3 : Nat) (l0_3 : List (S73)) (A1_0 : Option Addr) (c1_0 : Nat) (l1_0 : List Int) (A1_1 : Option Addr) (c1_1 : Nat) (l1_1 : List (S84)) (A1_2 : Option Addr) (c1_2 : Nat) (l1_2 : List (S86)) (A1_3 : Option Addr) (c1_3 : Nat) (l1_3 : List (S73)) (r : Bool) (w : World) (hr0_0 : Kd.C (Kd.int .i64) w A0_0 l0_0.length l0_0) (hc0_0 : l0_0.length ≤ c0_0) (hr0_1 : Kd.C k84 w A0_1 l0_1.length l0_1) (hc0_1 : l0_1.length ≤ c0_1) (hr0_2 : Kd.C k86 w A0_2 l0_2.length l0_2) (hc0_2 : l0_2.length ≤ c0_2) (hr0_3 : Kd.C k73 w A0_3 l0_3.length l0_3) (hc0_3 : l0_3.length ≤ c0_3) (hr1_0 : Kd.C (Kd.int .i64) w A1_0 l1_0.length l1_0) (hc1_0 : l1_0.length ≤ c1_0) (hr1_1 : Kd.C k84 w A1_1 l1_1.length l1_1) (hc1_1 : l1_1.length ≤ c1_1) (hr1_2 : Kd.C k86 w A1_2 l1_2.length l1_2) (hc1_2 : l1_2.length ≤ c1_2) (hr1_3 : Kd.C k73 w A1_3 l1_3.length l1_3) (hc1_3 : l1_3.length ≤ c1_3) (h : laws_eqState.f k l0_0 l0_1 l0_2 l0_3 l1_0 l1_1 l1_2 l1_3 = some r) :
  Calls Try.prog 14 #[.agg #[.slice A0_0 l0_0.length c0_0, .slice A0_1 l0_1.length c0_1, .slice A0_2 l0_2.length c0_2, .slice A0_3 l0_3.length c0_3], .agg #[.slice A1_0 l1_0.length c1_0, .slice A1_1 l1_1.length c1_1, .slice A1_2 l1_2.length c1_2, .slice A1_3 l1_3.length c1_3]] w fun e w' => e = .returned (.bool r) ∧ Below w.heap.size w w' := by
 have hu36 := Try.underlying36
 have HR0_0 := Aside0.mk hr0_0
 have HC0_0 := Aside0.mk hc0_0
 clear hr0_0 hc0_0
 have HR0_1 := Aside0.mk hr0_1
 have HC0_1 := Aside0.mk hc0_1
 clear hr0_1 hc0_1
 have HR0_2 := Aside0.mk hr0_2
 have HC0_2 := Aside0.mk hc0_2
 clear hr0_2 hc0_2
 have HR0_3 := Aside0.mk hr0_3
 have HC0_3 := Aside0.mk hc0_3
 clear hr0_3 hc0_3
 have HR1_0 := Aside0.mk hr1_0
 have HC1_0 := Aside0.mk hc1_0
 clear hr1_0 hc1_0
 have HR1_1 := Aside0.mk hr1_1
 have HC1_1 := Aside0.mk hc1_1
 clear hr1_1 hc1_1
 have HR1_2 := Aside0.mk hr1_2
 have HC1_2 := Aside0.mk hc1_2
 clear hr1_2 hc1_2
 have HR1_3 := Aside0.mk hr1_3
 have HC1_3 := Aside0.mk hc1_3
 clear hr1_3 hc1_3
 have HB := Aside0.mk (Below.refl w.heap.size w)
 have H := h
 clear h
 unfold laws_eqState.f at H
 repeat' (first
  | (refine none_o H; done)
  | ((with_reducible replace H := ite_t (by with_reducible assumption) H))
  | ((with_reducible replace H := ite_f (by with_reducible assumption) H))
  | ((with_reducible replace H := ite_lt H); rcases H with ⟨c1, H⟩ | ⟨c1, H⟩)
  | ((with_reducible replace H := ite_le H); rcases H with ⟨c1, H⟩ | ⟨c1, H⟩)
  | ((with_reducible replace H := ite_nb H); rcases H with ⟨c1, H⟩ | ⟨c1, H⟩)
  | ((with_reducible replace H := ite_b H); rcases H with ⟨c1, H⟩ | ⟨c1, H⟩ <;> (fail_if_success subst c1))
  | ((with_reducible replace H := ite_ei H); rcases H with ⟨c1, H⟩ | ⟨c1, H⟩)
  | ((with_reducible replace H := ite_es H); rcases H with ⟨c1, H⟩ | ⟨c1, H⟩)
  | ((with_reducible replace H := bind_s H); (try dsimp only at H))
  | ((with_reducible replace H := bind_o H); obtain ⟨t, A, H⟩ := H; (try dsimp only at H))
  | ((with_reducible replace H := ite_b H); rcases H with ⟨rfl, H⟩ | ⟨rfl, H⟩))
 all_goals
  obtain rfl := Option.some.inj H
  go_enter Try.func14, Try.ntmps14
  go_wp2_with (first
    | ((with_reducible refine gate_dst (N := 2) rfl ?_); refine bx_ (N := 2) ?_; intro g hg w1 hbox hb; have BK := Aside0.mk hbox; have GE := gw_ w zB hg; replace HB := Aside0.mk (below_step zB hb); clear hb hbox hg; have hcz := bc4 BK.out)
    | ((with_reducible refine gate_dst (N := 3) rfl ?_); refine bx_ (N := 3) ?_; intro g2 hg w1 hbox hb; have BK2 := Aside0.mk hbox; have GE2 := gw_ w zB hg; replace HB := Aside0.mk (below_step zB hb); have NB := nb_ BK zKf hg; have NB' := nc_ BK zKf hg; replace BK := bb_ BK zKf hb; clear hb hbox hg; have hcz2 := bc4 BK2.out; have hn := NB.out; have hn' := NB'.out; have hcz := bc4 BK.out)
    | (go_at_call 35; (with_reducible refine (laws_eqIntS.calls _ _ _ _ _ _ _ _ _ zC zL zC zL zA).mono ?_); rintro e w' ⟨rfl, ⟨nd, rfl⟩⟩; (try first | exact ⟨rfl, _, World.drewN_drewN _ _ _⟩ | exact ⟨rfl, _, Eq.trans (World.drewN_drewN _ _ _) (congrArg (World.drewN _) (Nat.add_assoc _ _ _))⟩))
    | (go_at_call 48; (with_reducible refine (laws_eqTallyS.calls _ _ _ _ _ _ _ _ _ zC zL zC zL zA).mono ?_); rintro e w' ⟨rfl, hb⟩; replace BK := bb_ BK zKf hb; replace BK2 := bb_ BK2 zKf2 hb; have hcz := bc4 BK.out; have hcz2 := bc4 BK2.out; replace HB := Aside0.mk (below_step zB hb); clear hb)
    | (go_at_call 49; (with_reducible refine (laws_eqLiveS.calls _ _ _ _ _ _ _ _ _ zC zL zC zL zA).mono ?_); rintro e w' ⟨rfl, hb⟩; replace BK := bb_ BK zKf hb; replace BK2 := bb_ BK2 zKf2 hb; have hcz := bc4 BK.out; have hcz2 := bc4 BK2.out; replace HB := Aside0.mk (below_step zB hb); clear hb)
    | (go_at_call 50; (with_reducible refine (laws_eqCellS.calls _ _ _ _ _ _ _ _ _ zC zL zC zL zA).mono ?_); rintro e w' ⟨rfl, hb⟩; replace BK := bb_ BK zKf hb; replace BK2 := bb_ BK2 zKf2 hb; have hcz := bc4 BK.out; have hcz2 := bc4 BK2.out; replace HB := Aside0.mk (below_step zB hb); clear hb))
  go_ret
  exact ⟨zT, zB⟩
def laws_szAct.f (a0_0 : Int) (a0_1 : Int) (a0_2 : Int) (l0_3 : List Int) (a0_4 : Int) (a0_5 : ByteArray) (a0_6 : ByteArray) (a0_7 : Int) (a0_8 : Int) (a0_9 : Int) (a1 : Int) : Option (Int) := (laws_szIntS.f l0_3 a1).bind fun t214 => (if t214 < 0 then (some (-1)) else (if (wrap64 (t214 - (a0_5.size : Int))) < 0 then (some (-1)) else (if (wrap64 ((wrap64 (t214 - (a0_5.size : Int))) - (a0_6.size : Int))) < 0 then (some (-1)) else (some (wrap64 ((wrap64 (t214 - (a0_5.size : Int))) - (a0_6.size : Int)))))))
set_option maxHeartbeats 8000000 in
set_option maxRecDepth 100000 in
theorem laws_szAct.calls (a0_0 : Int) (a0_1 : Int) (a0_2 : Int) (A0_3 : Option Addr) (c0_3 : Nat) (l0_3 : List Int) (a0_4 : Int) (a0_5 : ByteArray) (a0_6 : ByteArray) (a0_7 : Int) (a0_8 : Int) (a0_9 : Int) (a1 : Int) (r : Int) (w : World) (hr0_3 : Kd.C (Kd.int .i64) w A0_3 l0_3.length l0_3) (hc0_3 : l0_3.length ≤ c0_3) (h : laws_szAct.f a0_0 a0_1 a0_2 l0_3 a0_4 a0_5 a0_6 a0_7 a0_8 a0_9 a1 = some r) :
  Calls Try.prog 19 #[.agg #[.int .i64 a0_0, .int .i64 a0_1, .int .i64 a0_2, .slice A0_3 l0_3.length c0_3, .int .i64 a0_4, .string a0_5, .string a0_6, .int .i64 a0_7, .int .i64 a0_8, .int .i64 a0_9], .int .i64 a1] w fun e w' => e = .returned (.int .i64 r) ∧ Below w.heap.size w w' := by
 have hu46 := Try.underlying46
 have HR0_3 := Aside0.mk hr0_3
 have HC0_3 := Aside0.mk hc0_3
 clear hr0_3 hc0_3
 have HB := Aside0.mk (Below.refl w.heap.size w)
 have H := h
 unfold laws_szAct.f at H
 clear h
 replace H := Option.bind_eq_some_iff.mp H
 obtain ⟨t214, A30, H⟩ := H
 (try dsimp only at H)
 have A3 := Aside0.mk A30
 clear A30
 by_cases c4 : t214 < 0
 ·
  rw [if_pos c4] at H
  have c4b0 : decide (t214 < 0) = true := decide_eq_true c4
  clear c4
  obtain rfl := Option.some.inj H
  go_enter Try.func19, Try.ntmps19
  go_wp2_with (first | ((with_reducible refine gate_dst (N := 2) rfl ?_); refine box_event ?hg (N := 2) ?hd (cs := #[.int .i64 a0_0, .int .i64 a0_1, .int .i64 a0_2, .slice A0_3 l0_3.length c0_3, .int .i64 a0_4, .string a0_5, .string a0_6, .int .i64 a0_7, .int .i64 a0_8, .int .i64 a0_9]) (t := 46) ?hr ?_; (case hd => rfl); (case hg => rfl); (case hr => first | (go_simp; done) | (go_simp; rfl)); intro gb213 hg w5 hbox hb; have BK213 := Aside0.mk (hbox); have GW213 := gw_ w z6_0 hg; have GE213 := gw_ w z6_0 hg; replace HB := Aside0.mk (below_step z6_0 hb); clear hb hbox hg; have hcz6 := bc10 BK213.out) | ((with_reducible refine gate_callee (f := 38) rfl ?_); refine goesL_ (some 8) rfl rfl Try.func38 z6_14 rfl #[.slice A0_3 l0_3.length c0_3, .int .i64 a1] rfl z6_5 ?_; (with_reducible refine (laws_szIntS.calls _ _ l0_3 a1 t214 _ ?side1 ?side2 A3.out).mono ?_); (case side1 => exact z6_23); (case side2 => exact HC0_3.out); rintro e w' ⟨rfl, ⟨nd, rfl⟩⟩; refine ⟨_, rfl, ?_⟩))
  go_ret
  exact ⟨z6_7, z6_12⟩
 rw [if_neg c4] at H
 have c4b0 : decide (t214 < 0) = false := decide_eq_false c4
 clear c4
 by_cases c7 : (wrap64 (t214 - (a0_5.size : Int))) < 0
 ·
  rw [if_pos c7] at H
  have c7b0 : decide ((wrap64 (t214 - (a0_5.size : Int))) < 0) = true := decide_eq_true c7
  clear c7
  obtain rfl := Option.some.inj H
  go_enter Try.func19, Try.ntmps19
  go_wp2_with (first | ((with_reducible refine gate_dst (N := 2) rfl ?_); refine box_event ?hg (N := 2) ?hd (cs := #[.int .i64 a0_0, .int .i64 a0_1, .int .i64 a0_2, .slice A0_3 l0_3.length c0_3, .int .i64 a0_4, .string a0_5, .string a0_6, .int .i64 a0_7, .int .i64 a0_8, .int .i64 a0_9]) (t := 46) ?hr ?_; (case hd => rfl); (case hg => rfl); (case hr => first | (go_simp; done) | (go_simp; rfl)); intro gb213 hg w8 hbox hb; have BK213 := Aside0.mk (hbox); have GW213 := gw_ w z6_0 hg; have GE213 := gw_ w z6_0 hg; replace HB := Aside0.mk (below_step z6_0 hb); clear hb hbox hg; have hcz9 := bc10 BK213.out) | ((with_reducible refine gate_callee (f := 38) rfl ?_); refine goesL_ (some 8) rfl rfl Try.func38 z6_14 rfl #[.slice A0_3 l0_3.length c0_3, .int .i64 a1] rfl z6_5 ?_; (with_reducible refine (laws_szIntS.calls _ _ l0_3 a1 t214 _ ?side1 ?side2 A3.out).mono ?_); (case side1 => exact z6_23); (case side2 => exact HC0_3.out); rintro e w' ⟨rfl, ⟨nd, rfl⟩⟩; refine ⟨_, rfl, ?_⟩))
  go_ret
  exact ⟨z6_7, z6_12⟩
 rw [if_neg c7] at H
 have c7b0 : decide ((wrap64 (t214 - (a0_5.size : Int))) < 0) = false := decide_eq_false c7
 clear c7
 by_cases c10 : (wrap64 ((wrap64 (t214 - (a0_5.size : Int))) - (a0_6.size : Int))) < 0
 ·
  rw [if_pos c10] at H
  have c10b0 : decide ((wrap64 ((wrap64 (t214 - (a0_5.size : Int))) - (a0_6.size : Int))) < 0) = true := decide_eq_true c10
  clear c10
  obtain rfl := Option.some.inj H
  go_enter Try.func19, Try.ntmps19
  go_wp2_with (first | ((with_reducible refine gate_dst (N := 2) rfl ?_); refine box_event ?hg (N := 2) ?hd (cs := #[.int .i64 a0_0, .int .i64 a0_1, .int .i64 a0_2, .slice A0_3 l0_3.length c0_3, .int .i64 a0_4, .string a0_5, .string a0_6, .int .i64 a0_7, .int .i64 a0_8, .int .i64 a0_9]) (t := 46) ?hr ?_; (case hd => rfl); (case hg => rfl); (case hr => first | (go_simp; done) | (go_simp; rfl)); intro gb213 hg w11 hbox hb; have BK213 := Aside0.mk (hbox); have GW213 := gw_ w z6_0 hg; have GE213 := gw_ w z6_0 hg; replace HB := Aside0.mk (below_step z6_0 hb); clear hb hbox hg; have hcz12 := bc10 BK213.out) | ((with_reducible refine gate_callee (f := 38) rfl ?_); refine goesL_ (some 8) rfl rfl Try.func38 z6_14 rfl #[.slice A0_3 l0_3.length c0_3, .int .i64 a1] rfl z6_5 ?_; (with_reducible refine (laws_szIntS.calls _ _ l0_3 a1 t214 _ ?side1 ?side2 A3.out).mono ?_); (case side1 => exact z6_23); (case side2 => exact HC0_3.out); rintro e w' ⟨rfl, ⟨nd, rfl⟩⟩; refine ⟨_, rfl, ?_⟩))
  go_ret
  exact ⟨z6_7, z6_12⟩
 rw [if_neg c10] at H
 have c10b0 : decide ((wrap64 ((wrap64 (t214 - (a0_5.size : Int))) - (a0_6.size : Int))) < 0) = false := decide_eq_false c10
 clear c10
 obtain rfl := Option.some.inj H
 go_enter Try.func19, Try.ntmps19
 go_wp2_with (first | ((with_reducible refine gate_dst (N := 2) rfl ?_); refine box_event ?hg (N := 2) ?hd (cs := #[.int .i64 a0_0, .int .i64 a0_1, .int .i64 a0_2, .slice A0_3 l0_3.length c0_3, .int .i64 a0_4, .string a0_5, .string a0_6, .int .i64 a0_7, .int .i64 a0_8, .int .i64 a0_9]) (t := 46) ?hr ?_; (case hd => rfl); (case hg => rfl); (case hr => first | (go_simp; done) | (go_simp; rfl)); intro gb213 hg w13 hbox hb; have BK213 := Aside0.mk (hbox); have GW213 := gw_ w z6_0 hg; have GE213 := gw_ w z6_0 hg; replace HB := Aside0.mk (below_step z6_0 hb); clear hb hbox hg; have hcz14 := bc10 BK213.out) | ((with_reducible refine gate_callee (f := 38) rfl ?_); refine goesL_ (some 8) rfl rfl Try.func38 z6_14 rfl #[.slice A0_3 l0_3.length c0_3, .int .i64 a1] rfl z6_5 ?_; (with_reducible refine (laws_szIntS.calls _ _ l0_3 a1 t214 _ ?side1 ?side2 A3.out).mono ?_); (case side1 => exact z6_23); (case side2 => exact HC0_3.out); rintro e w' ⟨rfl, ⟨nd, rfl⟩⟩; refine ⟨_, rfl, ?_⟩))
 go_ret
 exact ⟨z6_7, z6_12⟩
def spec_CellAt.l0 : Nat → Int → List Int → List (S84) → List (S86) → List (S73) → Int → Int → Option (Int)
  | 0, _, _, _, _, _, _, _ => none
  | k + 1, x5, x216000, x216001, x216002, x216003, x217000, x217001 => if x5 < (x216003.length : Int) then (if 0 ≤ x5 then (if (((rd_T73 x216003 x5).f1.f0) == x217000 && (((rd_T73 x216003 x5).f1.f1) == x217001)) = true then (some x5) else (spec_CellAt.l0 k (wrap64 (x5 + 1)) x216000 x216001 x216002 x216003 x217000 x217001)) else (none)) else (some (-1))
def spec_CellAt.f (k : Nat) (l0_0 : List Int) (l0_1 : List (S84)) (l0_2 : List (S86)) (l0_3 : List (S73)) (a1_0 : Int) (a1_1 : Int) : Option (Int) := spec_CellAt.l0 k 0 l0_0 l0_1 l0_2 l0_3 a1_0 a1_1
set_option maxHeartbeats 8000000 in
set_option maxRecDepth 100000 in
theorem spec_CellAt.calls (k : Nat) (A0_0 : Option Addr) (c0_0 : Nat) (l0_0 : List Int) (A0_1 : Option Addr) (c0_1 : Nat) (l0_1 : List (S84)) (A0_2 : Option Addr) (c0_2 : Nat) (l0_2 : List (S86)) (A0_3 : Option Addr) (c0_3 : Nat) (l0_3 : List (S73)) (a1_0 : Int) (a1_1 : Int) (r : Int) (w : World) (hr0_0 : Kd.C (Kd.int .i64) w A0_0 l0_0.length l0_0) (hc0_0 : l0_0.length ≤ c0_0) (hr0_1 : Kd.C k84 w A0_1 l0_1.length l0_1) (hc0_1 : l0_1.length ≤ c0_1) (hr0_2 : Kd.C k86 w A0_2 l0_2.length l0_2) (hc0_2 : l0_2.length ≤ c0_2) (hr0_3 : Kd.C k73 w A0_3 l0_3.length l0_3) (hc0_3 : l0_3.length ≤ c0_3) (h : spec_CellAt.f k l0_0 l0_1 l0_2 l0_3 a1_0 a1_1 = some r) :
  Calls Try.prog 10 #[.agg #[.slice A0_0 l0_0.length c0_0, .slice A0_1 l0_1.length c0_1, .slice A0_2 l0_2.length c0_2, .slice A0_3 l0_3.length c0_3], .agg #[.int .i64 a1_0, .int .i64 a1_1]] w fun e w' => e = .returned (.int .i64 r) ∧ Below w.heap.size w w' := by
 have hu36 := Try.underlying36
 have hu38 := Try.underlying38
 have HR0_0 := Aside0.mk hr0_0
 have HC0_0 := Aside0.mk hc0_0
 clear hr0_0 hc0_0
 have HR0_1 := Aside0.mk hr0_1
 have HC0_1 := Aside0.mk hc0_1
 clear hr0_1 hc0_1
 have HR0_2 := Aside0.mk hr0_2
 have HC0_2 := Aside0.mk hc0_2
 clear hr0_2 hc0_2
 have HR0_3 := Aside0.mk hr0_3
 have HC0_3 := Aside0.mk hc0_3
 clear hr0_3 hc0_3
 have HB := Aside0.mk (Below.refl w.heap.size w)
 have H := h
 unfold spec_CellAt.f at H
 clear h
 have H' := Aside0.mk H
 clear H
 go_enter Try.func10, Try.ntmps10
 go_wp2_with (first | ((with_reducible refine gate_dst (N := 2) rfl ?_); refine box_event ?hg (N := 2) ?hd (cs := #[.slice A0_0 l0_0.length c0_0, .slice A0_1 l0_1.length c0_1, .slice A0_2 l0_2.length c0_2, .slice A0_3 l0_3.length c0_3]) (t := 36) ?hr ?_; (case hd => rfl); (case hg => rfl); (case hr => first | (go_simp; done) | (go_simp; rfl)); intro gb215 hg w3 hbox hb; have BK215 := Aside0.mk (hbox); have GW215 := gw_ w z6_0 hg; have GE215 := gw_ w z6_0 hg; replace HB := Aside0.mk (below_step z6_0 hb); clear hb hbox hg) | ((with_reducible refine gate_dst (N := 3) rfl ?_); refine box_event ?hg (N := 3) ?hd (cs := #[.int .i64 a1_0, .int .i64 a1_1]) (t := 38) ?hr ?_; (case hd => rfl); (case hg => rfl); (case hr => first | (go_simp; done) | (go_simp; rfl)); intro gb216 hg w4 hbox hb; have BK216 := Aside0.mk (hbox); have GW216 := gw_ w z6_6 hg; have GE216 := gw_ w z6_6 hg; replace HB := Aside0.mk (below_step z6_6 hb); have NB215_216 := nb_ BK215 z6_8 hg; have NB216_215 := nc_ BK215 z6_8 hg; replace BK215 := bb_ BK215 z6_8 hb; clear hb hbox hg))
 repeat (go_quiet (first | ((with_reducible refine gate_dst (N := 2) rfl ?_); refine box_event ?hg (N := 2) ?hd (cs := #[.slice A0_0 l0_0.length c0_0, .slice A0_1 l0_1.length c0_1, .slice A0_2 l0_2.length c0_2, .slice A0_3 l0_3.length c0_3]) (t := 36) ?hr ?_; (case hd => rfl); (case hg => rfl); (case hr => first | (go_simp; done) | (go_simp; rfl)); intro gb215 hg w3 hbox hb; have BK215 := Aside0.mk (hbox); have GW215 := gw_ w z6_0 hg; have GE215 := gw_ w z6_0 hg; replace HB := Aside0.mk (below_step z6_0 hb); clear hb hbox hg) | ((with_reducible refine gate_dst (N := 3) rfl ?_); refine box_event ?hg (N := 3) ?hd (cs := #[.int .i64 a1_0, .int .i64 a1_1]) (t := 38) ?hr ?_; (case hd => rfl); (case hg => rfl); (case hr => first | (go_simp; done) | (go_simp; rfl)); intro gb216 hg w4 hbox hb; have BK216 := Aside0.mk (hbox); have GW216 := gw_ w z6_6 hg; have GE216 := gw_ w z6_6 hg; replace HB := Aside0.mk (below_step z6_6 hb); have NB215_216 := nb_ BK215 z6_8 hg; have NB216_215 := nc_ BK215 z6_8 hg; replace BK215 := bb_ BK215 z6_8 hb; clear hb hbox hg)); try go_wp2_with (first | ((with_reducible refine gate_dst (N := 2) rfl ?_); refine box_event ?hg (N := 2) ?hd (cs := #[.slice A0_0 l0_0.length c0_0, .slice A0_1 l0_1.length c0_1, .slice A0_2 l0_2.length c0_2, .slice A0_3 l0_3.length c0_3]) (t := 36) ?hr ?_; (case hd => rfl); (case hg => rfl); (case hr => first | (go_simp; done) | (go_simp; rfl)); intro gb215 hg w3 hbox hb; have BK215 := Aside0.mk (hbox); have GW215 := gw_ w z6_0 hg; have GE215 := gw_ w z6_0 hg; replace HB := Aside0.mk (below_step z6_0 hb); clear hb hbox hg) | ((with_reducible refine gate_dst (N := 3) rfl ?_); refine box_event ?hg (N := 3) ?hd (cs := #[.int .i64 a1_0, .int .i64 a1_1]) (t := 38) ?hr ?_; (case hd => rfl); (case hg => rfl); (case hr => first | (go_simp; done) | (go_simp; rfl)); intro gb216 hg w4 hbox hb; have BK216 := Aside0.mk (hbox); have GW216 := gw_ w z6_6 hg; have GE216 := gw_ w z6_6 hg; replace HB := Aside0.mk (below_step z6_6 hb); have NB215_216 := nb_ BK215 z6_8 hg; have NB216_215 := nc_ BK215 z6_8 hg; replace BK215 := bb_ BK215 z6_8 hb; clear hb hbox hg)))
 go_loopg [5] k (fun kq v5 w' => ∃ (x5_1 : Int), v5 = .int .i64 x5_1 ∧ Aside0 (spec_CellAt.l0 kq x5_1 l0_0 l0_1 l0_2 l0_3 a1_0 a1_1 = some r) ∧ Aside0 (kq ≤ k) ∧ Aside0 (w'.heap[gb215]? = some (.cells #[(.slice A0_0 l0_0.length c0_0), (.slice A0_1 l0_1.length c0_1), (.slice A0_2 l0_2.length c0_2), (.slice A0_3 l0_3.length c0_3)] 36 (0, 0))) ∧ Aside0 (w'.heap[gb216]? = some (.cells #[.int .i64 a1_0, .int .i64 a1_1] 38 (0, 0))) ∧ Aside0 (Below w.heap.size w w'))
 case atStart => exact ⟨(0), z6_15, H', ⟨Nat.le_refl _⟩, ⟨z6_8⟩, ⟨z6_16⟩, ⟨z6_10⟩⟩
 case round =>
  clear H'
  try clear c1
  try clear p2
  obtain ⟨x5_1, rfl, HA, HK1, BK215, BK216, HB⟩ := hrel
  cases gk with
  | zero => exact absurd HA.out (by simp [spec_CellAt.l0])
  | succ k1 =>
   have H := HA.out
   clear HA
   simp only [spec_CellAt.l0] at H
   by_cases c5 : x5_1 < (l0_3.length : Int)
   rotate_left
   ·
    rw [if_neg c5] at H
    have c5b0 : decide (x5_1 < (l0_3.length : Int)) = false := decide_eq_false c5
    clear c5
    obtain rfl := Option.some.inj H
    have hnb14 := NB215_216.out
    have hnc14 := NB216_215.out
    have hcz15 := bc4 BK215.out
    go_wp2
    repeat (go_quiet (fail); try go_wp2)
    go_ret
    exact ⟨z6_7, z6_10⟩
   rw [if_pos c5] at H
   have c5b0 : decide (x5_1 < (l0_3.length : Int)) = true := decide_eq_true c5
   clear c5
   by_cases c6 : 0 ≤ x5_1
   rotate_left
   ·
    rw [if_neg c6] at H
    exact absurd H (by simp)
   rw [if_pos c6] at H
   have c6b0 : decide (0 ≤ x5_1) = true := decide_eq_true c6
   clear c6
   by_cases c7 : (((rd_T73 l0_3 x5_1).f1.f0) == a1_0 && (((rd_T73 l0_3 x5_1).f1.f1) == a1_1)) = true
   ·
    rw [if_pos c7] at H
    have c7b0 : (((rd_T73 l0_3 x5_1).f1.f0) == a1_0 && (((rd_T73 l0_3 x5_1).f1.f1) == a1_1)) = true := c7
    (try (have c7b1 : decide (((rd_T73 l0_3 x5_1).f1.f0) = a1_0 && (((rd_T73 l0_3 x5_1).f1.f1) == a1_1)) = true := by simpa using c7))
    (try (have c7b2 : (((rd_T73 l0_3 x5_1).f1.f0) == a1_0 && (((rd_T73 l0_3 x5_1).f1.f1) == a1_1)) = true := by simpa using c7))
    clear c7
    obtain rfl := Option.some.inj H
    have hnb8 := NB215_216.out
    have hnc8 := NB216_215.out
    have hcz9 := bc4 BK215.out
    have p217 : 0 ≤ (x5_1 : Int) := of_decide_eq_true z6_11
    have q217 : x5_1 < (l0_3.length : Int) := of_decide_eq_true z6_11
    obtain ⟨ad217, e217, hx217_0, hx217_1, hx217_2, hx217_3, hx217_4, hx217_5, hx217_6, hx217_7⟩ := at_T73 HR0_3.out x5_1 p217 q217
    cases e217
    replace hx217_0 := cb_ HB hx217_0
    replace hx217_1 := cb_ HB hx217_1
    replace hx217_2 := cb_ HB hx217_2
    replace hx217_3 := cb_ HB hx217_3
    replace hx217_4 := cb_ HB hx217_4
    replace hx217_5 := cb_ HB hx217_5
    replace hx217_6 := cb_ HB hx217_6
    replace hx217_7 := cb_ HB hx217_7
    replace p217 := eq_true p217
    replace q217 := eq_true q217
    have hcz10 := bc2 BK216.out
    go_wp2
    repeat (go_quiet (fail); try go_wp2)
    go_ret
    exact ⟨z6_7, z6_10⟩
   rw [if_neg c7] at H
   have c7b0 : (((rd_T73 l0_3 x5_1).f1.f0) == a1_0 && (((rd_T73 l0_3 x5_1).f1.f1) == a1_1)) = false := by simpa using c7
   (try (have c7b1 : decide (((rd_T73 l0_3 x5_1).f1.f0) = a1_0 && (((rd_T73 l0_3 x5_1).f1.f1) == a1_1)) = false := by simpa using c7))
   (try (have c7b2 : (((rd_T73 l0_3 x5_1).f1.f0) == a1_0 && (((rd_T73 l0_3 x5_1).f1.f1) == a1_1)) = false := by simpa using c7))
   (try (have c7b3 : ¬ (((rd_T73 l0_3 x5_1).f1.f0) = a1_0 && (((rd_T73 l0_3 x5_1).f1.f1) == a1_1)) := by simpa using c7))
   clear c7
   have H' := Aside0.mk H
   clear H
   have hnb11 := NB215_216.out
   have hnc11 := NB216_215.out
   have hcz12 := bc4 BK215.out
   have p217 : 0 ≤ (x5_1 : Int) := of_decide_eq_true z6_11
   have q217 : x5_1 < (l0_3.length : Int) := of_decide_eq_true z6_11
   obtain ⟨ad217, e217, hx217_0, hx217_1, hx217_2, hx217_3, hx217_4, hx217_5, hx217_6, hx217_7⟩ := at_T73 HR0_3.out x5_1 p217 q217
   cases e217
   replace hx217_0 := cb_ HB hx217_0
   replace hx217_1 := cb_ HB hx217_1
   replace hx217_2 := cb_ HB hx217_2
   replace hx217_3 := cb_ HB hx217_3
   replace hx217_4 := cb_ HB hx217_4
   replace hx217_5 := cb_ HB hx217_5
   replace hx217_6 := cb_ HB hx217_6
   replace hx217_7 := cb_ HB hx217_7
   replace p217 := eq_true p217
   replace q217 := eq_true q217
   have hcz13 := bc2 BK216.out
   go_wp2
   repeat (go_quiet (fail); try go_wp2)
   go_roundg k1
   case measure => have := HK1.out; omega
   case rel => exact ⟨(wrap64 (x5_1 + 1)), z6_15, H', ⟨by have := HK1.out; omega⟩, ⟨z6_8⟩, ⟨z6_16⟩, ⟨z6_10⟩⟩
def spec_l01In.f (a0 : Int) (a1 : Int) (a2 : Int) : Option (Bool) := if a0 ≥ a1 then (some (decide (a0 ≤ a2))) else (some false)
set_option maxHeartbeats 8000000 in
set_option maxRecDepth 100000 in
theorem spec_l01In.calls (a0 : Int) (a1 : Int) (a2 : Int) (r : Bool) (w : World) (h : spec_l01In.f a0 a1 a2 = some r) :
  Calls Try.prog 102 #[.int .i64 a0, .int .i64 a1, .int .i64 a2] w fun e w' => e = .returned (.bool r) ∧ Drawn0 w w' := by
 have H : (if a0 ≥ a1 then (some (decide (a0 ≤ a2))) else (some false)) = some r := h
 clear h
 by_cases c4 : a0 ≥ a1
 ·
  rw [if_pos c4] at H
  have c4b0 : decide (a1 ≤ a0) = true := decide_eq_true c4
  clear c4
  obtain rfl := Option.some.inj H
  go_enter Try.func102, Try.ntmps102
  go_wp2
  go_ret
  exact ⟨z6_15, by repeat (first | exact Drawn0.refl _ | apply Drawn0.step)⟩
 rw [if_neg c4] at H
 have c4b0 : decide (a1 ≤ a0) = false := decide_eq_false c4
 clear c4
 obtain rfl := Option.some.inj H
 go_enter Try.func102, Try.ntmps102
 go_wp2
 go_ret
 exact ⟨z6_15, by repeat (first | exact Drawn0.refl _ | apply Drawn0.step)⟩
end Go.Proofs.Ytbanogkoaplcdaa.QDo
