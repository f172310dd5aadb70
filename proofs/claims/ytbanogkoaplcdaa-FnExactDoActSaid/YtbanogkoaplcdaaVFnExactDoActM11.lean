/- Parts of the proof of FnExactDoAct, one behind the other. No condition. -/
import Derived.Test.YtbanogkoaplcdaaVFnExactDoActM6
namespace Go.Proofs.Ytbanogkoaplcdaa.QDo
open Go.RowKit Go.Proofs.Ytbanogkoaplcdaa.Auto Go.Proofs.Ytbanogkoaplcdaa.Lock Go.Proofs.Ytbanogkoaplcdaa.Short Go.Proofs.YtbanogkoaplcdaaW.PrintWords Go.Proofs.YtbanogkoaplcdaaW.PrintLast Go.Proofs.YtbanogkoaplcdaaW.PrintMore
attribute [local go_sem] max2_int min2_int max_two min_two max_three min_three max_four min_four   -- for this text's walks alone
set_option linter.unusedVariables false
set_option linter.unusedSimpArgs false
theorem z31_13 {P : Prop} (h : P := by kernel_rfl) : P := h
theorem z31_12 {P : Prop} (h : P := by (with_reducible repeat (first | apply Kd.R_alloc | apply Kd.R_drewN | apply Kd.R_drew)); exact HO0.out) : P := h
theorem z31_11 {P : Prop} (h : P := by repeat (first | (with_reducible first | exact HB.out | apply below_alloc | apply pw_below_drewN | apply below_drew1 | refine below_set ?_ GE801.out) | exact HB.out)) : P := h
theorem z31_10 {P : Prop} (h : P := by first | rfl | (simp; done) | (simp [*]; done)) : P := h
theorem z31_8 {P : Prop} (h : P := by first | rfl | (simp [errW_none, errW_some] <;> rfl) | (simp [*, errW_none, errW_some] <;> rfl)) : P := h
theorem z31_7 {P : Prop} (h : P := by first | rfl | (simp only [List.map_toArray, List.map_cons, List.map_nil]; first | done | rfl)) : P := h
theorem z31_6 {P : Prop} (h : P := by (with_reducible repeat (first | apply Kd.R_alloc | apply Kd.R_drewN | apply Kd.R_drew)); exact HO_0.out) : P := h
theorem z31_4 {P : Prop} (h : P := by repeat (first | (with_reducible first | exact HK.out | apply Kept.alloc | apply Kept.drewN | apply Kept.drew) | exact HK.out)) : P := h
theorem z31_1 {P : Prop} (h : P := by first | (with_reducible assumption) | assumption) : P := h
theorem z31_0 {P : Prop} (h : P := by repeat (first | (with_reducible first | exact HB.out | apply below_alloc | apply pw_below_drewN | apply below_drew1) | exact HB.out)) : P := h
def impl_tooMany.f (l0_0 : List Int) (l0_1 : List (S84)) (l0_2 : List (S86)) (l0_3 : List (S73)) : Option (Bool) := if (l0_1.length : Int) > 120 then (some true) else (if (l0_2.length : Int) > 120 then (some true) else (some (decide ((l0_3.length : Int) > 120))))
set_option maxHeartbeats 8000000 in
set_option maxRecDepth 100000 in
theorem impl_tooMany.calls (A0_0 : Option Addr) (c0_0 : Nat) (l0_0 : List Int) (A0_1 : Option Addr) (c0_1 : Nat) (l0_1 : List (S84)) (A0_2 : Option Addr) (c0_2 : Nat) (l0_2 : List (S86)) (A0_3 : Option Addr) (c0_3 : Nat) (l0_3 : List (S73)) (r : Bool) (w : World) (hr0_0 : Kd.C (Kd.int .i64) w A0_0 l0_0.length l0_0) (hc0_0 : l0_0.length ≤ c0_0) (hr0_1 : Kd.C k84 w A0_1 l0_1.length l0_1) (hc0_1 : l0_1.length ≤ c0_1) (hr0_2 : Kd.C k86 w A0_2 l0_2.length l0_2) (hc0_2 : l0_2.length ≤ c0_2) (hr0_3 : Kd.C k73 w A0_3 l0_3.length l0_3) (hc0_3 : l0_3.length ≤ c0_3) (h : impl_tooMany.f l0_0 l0_1 l0_2 l0_3 = some r) :
  Calls Try.prog 79 #[.agg #[.slice A0_0 l0_0.length c0_0, .slice A0_1 l0_1.length c0_1, .slice A0_2 l0_2.length c0_2, .slice A0_3 l0_3.length c0_3]] w fun e w' => e = .returned (.bool r) ∧ Below w.heap.size w w' := by
 have hu36 := Try.underlying36
 have HR0_0 := Aside0.mk hr0_0
 have HC0_0 := Aside0.mk hc0_0
 clear hr0_0 hc0_0
 have HR0_1 := Aside0.mk hr0_1
 have HC0_1 := Aside0.mk hc0_1
 clear hr0_1 hc0_1
 have HR0_2 := Aside0.mk hr0_2
 have HC0_2 := Aside0.mk hc0_2
 clear hr0_2 hc0_2
 have HR0_3 := Aside0.mk hr0_3
 have HC0_3 := Aside0.mk hc0_3
 clear hr0_3 hc0_3
 have HB := Aside0.mk (Below.refl w.heap.size w)
 have H : (if (l0_1.length : Int) > 120 then (some true) else (if (l0_2.length : Int) > 120 then (some true) else (some (decide ((l0_3.length : Int) > 120))))) = some r := h
 clear h
 by_cases c2 : (l0_1.length : Int) > 120
 ·
  rw [if_pos c2] at H
  have c2b0 : decide (120 < (l0_1.length : Int)) = true := decide_eq_true c2
  have c2b1 : decide (120 < l0_1.length) = true := decide_eq_true (by omega)
  clear c2
  obtain rfl := Option.some.inj H
  go_enter Try.func79, Try.ntmps79
  go_wp2_with (first | ((with_reducible refine gate_dst (N := 1) rfl ?_); (try (refine gate_guard (by rfl) ?_; dsimp only)); refine box_event ?hg (N := 1) ?hd (cs := #[.slice A0_0 l0_0.length c0_0, .slice A0_1 l0_1.length c0_1, .slice A0_2 l0_2.length c0_2, .slice A0_3 l0_3.length c0_3]) (t := 36) ?hr ?_; (case hd => rfl); (case hg => rfl); (case hr => first | (go_simp; done) | (go_simp; rfl)); intro gb801 hg w3 hbox hb; have BK801 := Aside0.mk (hbox); have GW801 := gw_ w z31_0 hg; have GE801 := gw_ w z31_0 hg; replace HB := Aside0.mk (below_step z31_0 hb); clear hb hbox hg; have hcz4 := bc4 BK801.out))
  go_ret
  exact ⟨z31_8, z31_11⟩
 rw [if_neg c2] at H
 have c2b0 : decide (120 < (l0_1.length : Int)) = false := decide_eq_false c2
 have c2b1 : decide (120 < l0_1.length) = false := decide_eq_false (by omega)
 clear c2
 by_cases c5 : (l0_2.length : Int) > 120
 ·
  rw [if_pos c5] at H
  have c5b0 : decide (120 < (l0_2.length : Int)) = true := decide_eq_true c5
  have c5b1 : decide (120 < l0_2.length) = true := decide_eq_true (by omega)
  clear c5
  obtain rfl := Option.some.inj H
  go_enter Try.func79, Try.ntmps79
  go_wp2_with (first | ((with_reducible refine gate_dst (N := 1) rfl ?_); (try (refine gate_guard (by rfl) ?_; dsimp only)); refine box_event ?hg (N := 1) ?hd (cs := #[.slice A0_0 l0_0.length c0_0, .slice A0_1 l0_1.length c0_1, .slice A0_2 l0_2.length c0_2, .slice A0_3 l0_3.length c0_3]) (t := 36) ?hr ?_; (case hd => rfl); (case hg => rfl); (case hr => first | (go_simp; done) | (go_simp; rfl)); intro gb801 hg w6 hbox hb; have BK801 := Aside0.mk (hbox); have GW801 := gw_ w z31_0 hg; have GE801 := gw_ w z31_0 hg; replace HB := Aside0.mk (below_step z31_0 hb); clear hb hbox hg; have hcz7 := bc4 BK801.out))
  go_ret
  exact ⟨z31_8, z31_11⟩
 rw [if_neg c5] at H
 have c5b0 : decide (120 < (l0_2.length : Int)) = false := decide_eq_false c5
 have c5b1 : decide (120 < l0_2.length) = false := decide_eq_false (by omega)
 clear c5
 obtain rfl := Option.some.inj H
 go_enter Try.func79, Try.ntmps79
 go_wp2_with (first | ((with_reducible refine gate_dst (N := 1) rfl ?_); (try (refine gate_guard (by rfl) ?_; dsimp only)); refine box_event ?hg (N := 1) ?hd (cs := #[.slice A0_0 l0_0.length c0_0, .slice A0_1 l0_1.length c0_1, .slice A0_2 l0_2.length c0_2, .slice A0_3 l0_3.length c0_3]) (t := 36) ?hr ?_; (case hd => rfl); (case hg => rfl); (case hr => first | (go_simp; done) | (go_simp; rfl)); intro gb801 hg w8 hbox hb; have BK801 := Aside0.mk (hbox); have GW801 := gw_ w z31_0 hg; have GE801 := gw_ w z31_0 hg; replace HB := Aside0.mk (below_step z31_0 hb); clear hb hbox hg; have hcz9 := bc4 BK801.out))
 go_ret
 exact ⟨z31_8, z31_11⟩
def laws_eqAct.f (k : Nat) (a0_0 : Int) (a0_1 : Int) (a0_2 : Int) (l0_3 : List Int) (a0_4 : Int) (a0_5 : ByteArray) (a0_6 : ByteArray) (a0_7 : Int) (a0_8 : Int) (a0_9 : Int) (a1_0 : Int) (a1_1 : Int) (a1_2 : Int) (l1_3 : List Int) (a1_4 : Int) (a1_5 : ByteArray) (a1_6 : ByteArray) (a1_7 : Int) (a1_8 : Int) (a1_9 : Int) : Option (Bool) := (laws_eqDot.f a0_0 a0_1 a1_0 a1_1).bind fun t871 => (if t871 = true then (if a0_2 = a1_2 then ((laws_eqIntS.f k l0_3 l1_3).bind fun t872 => (if t872 = true then (if a0_4 = a1_4 then (if a0_5.toList = a1_5.toList then (if a0_6.toList = a1_6.toList then (if a0_7 = a1_7 then ((laws_eqDot.f a0_8 a0_9 a1_8 a1_9).bind fun t873 => (if t873 = true then (some true) else (some false))) else (some false)) else (some false)) else (some false)) else (some false)) else (some false))) else (some false)) else (some false))
set_option maxHeartbeats 8000000 in
set_option maxRecDepth 100000 in
theorem laws_eqAct.calls (k : Nat) (a0_0 : Int) (a0_1 : Int) (a0_2 : Int) (A0_3 : Option Addr) (c0_3 : Nat) (l0_3 : List Int) (a0_4 : Int) (a0_5 : ByteArray) (a0_6 : ByteArray) (a0_7 : Int) (a0_8 : Int) (a0_9 : Int) (a1_0 : Int) (a1_1 : Int) (a1_2 : Int) (A1_3 : Option Addr) (c1_3 : Nat) (l1_3 : List Int) (a1_4 : Int) (a1_5 : ByteArray) (a1_6 : ByteArray) (a1_7 : Int) (a1_8 : Int) (a1_9 : Int) (r : Bool) (w : World) (hr0_3 : Kd.C (Kd.int .i64) w A0_3 l0_3.length l0_3) (hc0_3 : l0_3.length ≤ c0_3) (hr1_3 : Kd.C (Kd.int .i64) w A1_3 l1_3.length l1_3) (hc1_3 : l1_3.length ≤ c1_3) (h : laws_eqAct.f k a0_0 a0_1 a0_2 l0_3 a0_4 a0_5 a0_6 a0_7 a0_8 a0_9 a1_0 a1_1 a1_2 l1_3 a1_4 a1_5 a1_6 a1_7 a1_8 a1_9 = some r) :
  Calls Try.prog 23 #[.agg #[.int .i64 a0_0, .int .i64 a0_1, .int .i64 a0_2, .slice A0_3 l0_3.length c0_3, .int .i64 a0_4, .string a0_5, .string a0_6, .int .i64 a0_7, .int .i64 a0_8, .int .i64 a0_9], .agg #[.int .i64 a1_0, .int .i64 a1_1, .int .i64 a1_2, .slice A1_3 l1_3.length c1_3, .int .i64 a1_4, .string a1_5, .string a1_6, .int .i64 a1_7, .int .i64 a1_8, .int .i64 a1_9]] w fun e w' => e = .returned (.bool r) ∧ Below w.heap.size w w' := by
 have hu51 := Try.underlying51
 have hu38 := Try.underlying38
 have HR0_3 := Aside0.mk hr0_3
 have HC0_3 := Aside0.mk hc0_3
 clear hr0_3 hc0_3
 have HR1_3 := Aside0.mk hr1_3
 have HC1_3 := Aside0.mk hc1_3
 clear hr1_3 hc1_3
 have HB := Aside0.mk (Below.refl w.heap.size w)
 have H := h
 clear h
 unfold laws_eqAct.f at H
 repeat' (first
  | (refine none_o H; done)
  | ((with_reducible replace H := ite_t (by with_reducible assumption) H))
  | ((with_reducible replace H := ite_f (by with_reducible assumption) H))
  | ((with_reducible replace H := ite_lt H); rcases H with ⟨c1, H⟩ | ⟨c1, H⟩)
  | ((with_reducible replace H := ite_le H); rcases H with ⟨c1, H⟩ | ⟨c1, H⟩)
  | ((with_reducible replace H := ite_nb H); rcases H with ⟨c1, H⟩ | ⟨c1, H⟩)
  | ((with_reducible replace H := ite_b H); rcases H with ⟨c1, H⟩ | ⟨c1, H⟩ <;> (fail_if_success subst c1))
  | ((with_reducible replace H := ite_ei H); rcases H with ⟨c1, H⟩ | ⟨c1, H⟩)
  | ((with_reducible replace H := ite_es H); rcases H with ⟨c1, H⟩ | ⟨c1, H⟩)
  | ((with_reducible replace H := bind_s H); (try dsimp only at H))
  | ((with_reducible replace H := bind_o H); obtain ⟨t, A, H⟩ := H; (try dsimp only at H))
  | ((with_reducible replace H := ite_b H); rcases H with ⟨rfl, H⟩ | ⟨rfl, H⟩))
 all_goals
  obtain rfl := Option.some.inj H
  go_enter Try.func23, Try.ntmps23
  go_wp2_with (first
    | ((with_reducible refine gate_dst (N := 2) rfl ?_); refine bx_ (N := 2) ?_; intro g hg w1 hbox hb; have BK := Aside0.mk hbox; have GE := gw_ w zB hg; replace HB := Aside0.mk (below_step zB hb); clear hb hbox hg; have hcz := bc10 BK.out)
    | ((with_reducible refine gate_dst (N := 3) rfl ?_); refine bx_ (N := 3) ?_; intro g2 hg w1 hbox hb; have BK2 := Aside0.mk hbox; have GE2 := gw_ w zB hg; replace HB := Aside0.mk (below_step zB hb); have NB := nb_ BK zKf hg; have NB' := nc_ BK zKf hg; replace BK := bb_ BK zKf hb; clear hb hbox hg; have hcz2 := bc10 BK2.out; have hn := NB.out; have hn' := NB'.out; have hcz := bc10 BK.out)
    | (go_at_call 80; (with_reducible refine (laws_eqDot.calls _ _ _ _ _ _ zA).mono ?_); rintro e w' ⟨rfl, hb⟩; replace BK := bb_ BK zKf hb; replace BK2 := bb_ BK2 zKf2 hb; have hcz := bc10 BK.out; have hcz2 := bc10 BK2.out; replace HB := Aside0.mk (below_step zB hb); clear hb)
    | (go_at_call 35; (with_reducible refine (laws_eqIntS.calls _ _ _ _ _ _ _ _ _ zC zL zC zL zA).mono ?_); rintro e w' ⟨rfl, ⟨nd, rfl⟩⟩; (try first | exact ⟨rfl, _, World.drewN_drewN _ _ _⟩ | exact ⟨rfl, _, Eq.trans (World.drewN_drewN _ _ _) (congrArg (World.drewN _) (Nat.add_assoc _ _ _))⟩)))
  go_ret
  exact ⟨zT, zB⟩
def laws_markIntS.l0 : Nat → List Int → Int → Int → Option (Int × List Int)
  | 0, _, _, _ => none
  | k + 1, x0, x1, x5 => if x5 < (x0.length : Int) then (if 0 ≤ x5 then (laws_markIntS.l0 k (x0.set (x5 : Int).toNat x1) (wrap64 (x1 + 1)) (wrap64 (x5 + 1))) else (none)) else (some (x1, x0))
def laws_markIntS.f (k : Nat) (l0 : List Int) (a1 : Int) : Option (Int × List Int) := laws_markIntS.l0 k l0 a1 0
set_option maxHeartbeats 8000000 in
set_option maxRecDepth 100000 in
theorem laws_markIntS.calls (k : Nat) (P0_ : Nat → Prop) (u9000_ : Value) (l0 : List Int) (a1 : Int) (r1 : Int) (r2 : List Int) (w0 w : World) (hB : Below w0.heap.size w0 w) (ho0 : Kd.R (Kd.int .i64) 3 w w0.heap.size P0_ u9000_ l0) (h : laws_markIntS.f k l0 a1 = some (r1, r2)) :
  Calls Try.prog 36 #[u9000_, .int .i64 a1] w fun e w' => e = .returned (.int .i64 r1) ∧ Kd.R (Kd.int .i64) 3 w' w0.heap.size (fun k_ => (P0_ k_ ∨ w.heap.size ≤ k_)) u9000_ r2 ∧ Below w0.heap.size w0 w' ∧ Kept w w' (fun k_ => P0_ k_) := by
 have HO0 := Aside0.mk (show Kd.R (Kd.int .i64) 3 w w0.heap.size (fun k_ => (P0_ k_ ∨ w.heap.size ≤ k_)) u9000_ l0 from Kd.R_mono ho0 (fun k_ hk => (.inl hk)))
 have HK := Aside0.mk (Kept.refl w (fun k_ => P0_ k_))
 have HW0 := Aside0.mk hB.size
 have HB := Aside0.mk hB
 clear hB
 have H : (laws_markIntS.l0 k l0 a1 0) = some (r1, r2) := h
 clear h
 have H' := Aside0.mk H
 clear H
 go_enter Try.func36, Try.ntmps36
 go_wp2
 go_loopg [1, 5] k (fun kq v1 v5 w' => ∃ (x0_1 : List Int) (x1_1 : Int) (x5_1 : Int), v1 = .int .i64 x1_1 ∧ v5 = .int .i64 x5_1 ∧ Aside0 (laws_markIntS.l0 kq x0_1 x1_1 x5_1 = some (r1, r2)) ∧ Aside0 (kq ≤ k) ∧ Aside0 (Kd.R (Kd.int .i64) 3 w' w0.heap.size (fun k_ => (P0_ k_ ∨ w.heap.size ≤ k_)) u9000_ x0_1) ∧ Aside0 (Kept w w' (fun k_ => P0_ k_)) ∧ Aside0 (Below w0.heap.size w0 w'))
 case atStart => exact ⟨(l0), (a1), (0), z31_10, z31_10, H', ⟨Nat.le_refl _⟩, ⟨z31_12⟩, ⟨z31_4⟩, ⟨z31_0⟩⟩
 case round =>
  clear H'
  try clear p2
  obtain ⟨x0_1, x1_1, x5_1, rfl, rfl, HA, HK1, HO_0, HK, HB⟩ := hrel
  cases gk with
  | zero => exact absurd HA.out (by simp [laws_markIntS.l0])
  | succ k1 =>
   have H := HA.out
   clear HA
   simp only [laws_markIntS.l0] at H
   by_cases c3 : x5_1 < (x0_1.length : Int)
   rotate_left
   ·
    rw [if_neg c3] at H
    have c3b0 : decide (x5_1 < (x0_1.length : Int)) = false := decide_eq_false c3
    clear c3
    simp only [Option.some.injEq, Prod.mk.injEq] at H
    obtain ⟨rfl, rfl⟩ := H
    obtain ⟨Ao9, co9, eo9⟩ := Kd.R_slice HO_0.out
    subst eo9
    go_wp2
    go_ret
    exact ⟨z31_8, z31_6, z31_0, z31_4⟩
   rw [if_pos c3] at H
   have c3b0 : decide (x5_1 < (x0_1.length : Int)) = true := decide_eq_true c3
   clear c3
   by_cases c4 : 0 ≤ x5_1
   rotate_left
   ·
    rw [if_neg c4] at H
    exact absurd H (by simp)
   rw [if_pos c4] at H
   have c4b0 : decide (0 ≤ x5_1) = true := decide_eq_true c4
   clear c4
   obtain ⟨y874, hy874⟩ : ∃ y_ : List Int, y_ = (x0_1.set (x5_1 : Int).toNat x1_1) := ⟨_, rfl⟩
   replace H : (laws_markIntS.l0 k1 y874 (wrap64 (x1_1 + 1)) (wrap64 (x5_1 + 1))) = some (r1, r2) := by first | (rw [hy874]; with_reducible exact H) | (have H2_ := (Option.bind_some _ _).symm.trans H; rw [hy874]; with_reducible exact H2_) | (have H2_ := (Option.bind_some _ _).symm.trans H; with_reducible exact H2_) | with_reducible exact H | (rw [hy874]; exact H) | exact H
   have Ny874 := Aside0.mk hy874
   clear hy874
   have H' := Aside0.mk H
   clear H
   obtain ⟨Ao6, co6, eo6⟩ := Kd.R_slice HO_0.out
   subst eo6
   have p5 : 0 ≤ (x5_1 : Int) := of_decide_eq_true z31_1
   have q5 : (x5_1 : Int) < ((x0_1.length : Int) : Int) := of_decide_eq_true z31_1
   obtain ⟨go5, co5, eo5, gb5, gl5, cl5, HG5⟩ := Kd.R_form HO_0.out (by omega)
   (first | cases eo5 | (injection eo5 with ea_ en_ ec_; (first | subst ea_ | (injection ea_ with ea_; subst ea_)); subst ec_; clear en_))
   have GB5 := Aside0.mk gb5
   have GG5 := Aside0.mk HG5
   clear gb5 gl5 HG5
   have HMgo5 := Aside0.mk (show (P0_ go5 ∨ w.heap.size ≤ go5) from (HO_0.out.1 _ rfl))
   obtain ⟨hx5_0, hf5_0⟩ := Kd.R_celln 0 HO_0.out (x5_1 : Int) p5 q5
   replace p5 := eq_true p5
   replace q5 := eq_true q5
   have HP7 := Kd.R_putg HO_0.out (x5_1 : Int) x1_1
   go_wp2_with (first | ((with_reducible refine gate_store (t := 3) (p := 15) rfl ?_); refine store_event (t := 3) (p := 15) (v := ?vo_w8) (w1 := (wr.setCell ⟨go5, (x5_1 : Int).toNat, none⟩ (.int .i64 x1_1))) ?hg ?ho ?hn ?hr ?_; (case ho => rfl); (case hg => rfl); (case hn => rfl); (case hr => first | (go_simp; done) | (go_simp; rfl)); intro w8 hw; have hg : wr.grownBy w8 (some go5) := (by rw [hw]; exact HP7.2); have hp_ : Kd.R (Kd.int .i64) 3 w8 w0.heap.size (fun k_ => (P0_ k_ ∨ w.heap.size ≤ k_)) (.slice (some ⟨go5, 0, none⟩) x0_1.length co6) y874 := (by rw [hw, Ny874.out]; exact HP7.1); clear HP7; replace HB := Aside0.mk ((by rw [hw]; exact below_set (HB.out) GB5.out : Below w0.heap.size w0 w8)); replace HK := Aside0.mk (Kept.of_grown (S := (fun k_ => P0_ k_)) hg z31_4 (fun k_ e_ => (HO_0.out.1 k_ e_))); replace HO_0 := Aside0.mk (hp_); clear hg hw hp_))
   go_roundg k1
   case measure => have := HK1.out; omega
   case rel => exact ⟨(y874), (wrap64 (x1_1 + 1)), (wrap64 (x5_1 + 1)), z31_10, z31_10, H', ⟨by have := HK1.out; omega⟩, ⟨z31_6⟩, ⟨z31_4⟩, ⟨z31_0⟩⟩
def laws_markText.l0 : Nat → Int → ByteArray → Option (ByteArray)
  | 0, _, _ => none
  | k + 1, x0, x3 => if x0 > 0 then ((some (([(wrap64 (48 + (Int.tmod x0 10))) % 256] : List Int) : List Int)).bind fun y875 => (if (strOfNums y875).size + x3.size ≤ 9223372036854775807 then (laws_markText.l0 k (wrap64 (Int.tdiv x0 10)) ((strOfNums y875) ++ x3)) else (none))) else (if 1 + x3.size ≤ 9223372036854775807 then (some ((⟨#[109]⟩ : ByteArray) ++ x3)) else (none))
def laws_markText.f (k : Nat) (a0 : Int) : Option (ByteArray) := if a0 ≤ 0 then (some (⟨#[109, 48]⟩ : ByteArray)) else (laws_markText.l0 k a0 (⟨#[]⟩ : ByteArray))
set_option maxHeartbeats 8000000 in
set_option maxRecDepth 100000 in
theorem laws_markText.calls (k : Nat) (a0 : Int) (r : ByteArray) (w : World) (h : laws_markText.f k a0 = some r) :
  Calls Try.prog 89 #[.int .i64 a0] w fun e w' => e = .returned (.string r) ∧ Below w.heap.size w w' := by
 have HB := Aside0.mk (Below.refl w.heap.size w)
 have H : (if a0 ≤ 0 then (some (⟨#[109, 48]⟩ : ByteArray)) else (laws_markText.l0 k a0 (⟨#[]⟩ : ByteArray))) = some r := h
 clear h
 by_cases c2 : a0 ≤ 0
 ·
  rw [if_pos c2] at H
  have c2b0 : decide (a0 ≤ 0) = true := decide_eq_true c2
  clear c2
  obtain rfl := Option.some.inj H
  go_enter Try.func89, Try.ntmps89
  go_wp2
  go_ret
  exact ⟨z31_8, z31_0⟩
 rw [if_neg c2] at H
 have c2b0 : decide (a0 ≤ 0) = false := decide_eq_false c2
 clear c2
 have H' := Aside0.mk H
 clear H
 go_enter Try.func89, Try.ntmps89
 go_wp2
 go_loopg [0, 3] k (fun kq v0 v3 w' => ∃ (x0_1 : Int) (x3_1 : ByteArray), v0 = .int .i64 x0_1 ∧ v3 = .string x3_1 ∧ Aside0 (laws_markText.l0 kq x0_1 x3_1 = some r) ∧ Aside0 (kq ≤ k) ∧ Aside0 (Below w.heap.size w w'))
 case atStart => exact ⟨(a0), ((⟨#[]⟩ : ByteArray)), z31_10, z31_10, H', ⟨Nat.le_refl _⟩, ⟨z31_0⟩⟩
 case round =>
  clear H'
  try clear c2
  try clear c2b0
  try clear p2
  obtain ⟨x0_1, x3_1, rfl, rfl, HA, HK1, HB⟩ := hrel
  cases gk with
  | zero => exact absurd HA.out (by simp [laws_markText.l0])
  | succ k1 =>
   have H := HA.out
   clear HA
   simp only [laws_markText.l0] at H
   by_cases c3 : x0_1 > 0
   rotate_left
   ·
    rw [if_neg c3] at H
    have c3b0 : decide (0 < x0_1) = false := decide_eq_false c3
    clear c3
    by_cases c8 : 1 + x3_1.size ≤ 9223372036854775807
    rotate_left
    ·
     rw [if_neg c8] at H
     exact absurd H (by simp)
    rw [if_pos c8] at H
    have c8b0 := eq_true c8
    have c8b1 : decide (1 + x3_1.size ≤ 9223372036854775807) = true := decide_eq_true c8
    try have c8b2 : (9223372036854775807 < 1 + x3_1.size) = False := eq_false (Nat.not_lt.2 c8)
    obtain rfl := Option.some.inj H
    go_wp2
    go_ret
    exact ⟨z31_8, z31_0⟩
   rw [if_pos c3] at H
   have c3b0 : decide (0 < x0_1) = true := decide_eq_true c3
   clear c3
   obtain ⟨y875, hy875⟩ : ∃ y_ : List Int, y_ = (([(wrap64 (48 + (Int.tmod x0_1 10))) % 256] : List Int)) := ⟨_, rfl⟩
   replace H : (if (strOfNums y875).size + x3_1.size ≤ 9223372036854775807 then (laws_markText.l0 k1 (wrap64 (Int.tdiv x0_1 10)) ((strOfNums y875) ++ x3_1)) else (none)) = some r := by first | (rw [hy875]; with_reducible exact H) | (have H2_ := (Option.bind_some _ _).symm.trans H; rw [hy875]; with_reducible exact H2_) | (have H2_ := (Option.bind_some _ _).symm.trans H; with_reducible exact H2_) | with_reducible exact H | (rw [hy875]; exact H) | exact H
   have Ny875 := Aside0.mk hy875
   clear hy875
   by_cases c4 : (strOfNums y875).size + x3_1.size ≤ 9223372036854775807
   rotate_left
   ·
    rw [if_neg c4] at H
    exact absurd H (by simp)
   rw [if_pos c4] at H
   have c4b0 := eq_true c4
   have c4b1 : decide ((strOfNums y875).size + x3_1.size ≤ 9223372036854775807) = true := decide_eq_true c4
   try have c4b2 : (9223372036854775807 < (strOfNums y875).size + x3_1.size) = False := eq_false (Nat.not_lt.2 c4)
   have H' := Aside0.mk H
   clear H
   go_wp2_with (first | ((with_reducible refine gate_dst (N := 12) rfl ?_); refine Kd.R_lit (Kd.int .u8) _ 5 ?hg (N := 12) ?hd (xs := ([(wrap64 (48 + (Int.tmod x0_1 10))) % 256] : List Int)) (inner := [.int .u8 ((wrap64 (48 + (Int.tmod x0_1 10))) % 256)]) (ok := fun _ => True) (okp := fun _ => True) ?hr ?hp (fun _ hk => hk) trivial (Below.refl _ _) (Nat.le_refl _) (by simp) ?_; (case hd => rfl); (case hg => rfl); (case hr => first | (go_simp; done) | (go_simp; rfl)); (case hp => exact (Reps.one (show Kd.M (Kd.int .u8) _ _ _ ((wrap64 (48 + (Int.tmod x0_1 10))) % 256) [.int .u8 ((wrap64 (48 + (Int.tmod x0_1 10))) % 256)] from rfl) (Reps.none _ _))); intro v876 w5 ho6 hb hg_ hnew_; clear hg_ hnew_; (first | rw [← Ny875.out] at ho6 | (simp only [Int.reduceToNat] at ho6; rw [← Ny875.out] at ho6)); have HO877 := Aside0.mk (Kd.R_lower ho6 (below_size z31_0)); replace HB := Aside0.mk (below_step z31_0 hb); clear hb ho6; have hcv7 := own_string (P := Try.prog) Try.underlying136 Try.underlying5 Try.underlying9 (Kd.own_of_R HO877.out)))
   go_roundg k1
   case measure => have := HK1.out; omega
   case rel => exact ⟨(wrap64 (Int.tdiv x0_1 10)), ((strOfNums y875) ++ x3_1), z31_10, z31_10, H', ⟨by have := HK1.out; omega⟩, ⟨z31_0⟩⟩
def laws_markTallyS.l0 : Nat → List (S84) → Int → Int → Option (Int × (List (S84)))
  | 0, _, _, _ => none
  | k + 1, x0, x1, x5 => if x5 < (x0.length : Int) then ((laws_markText.f k x1).bind fun t878 => (if 0 ≤ x5 then ((some (x0.set (x5 : Int).toNat (⟨t878, (rd_T84 x0 x5).f1, (rd_T84 x0 x5).f2⟩ : S84) : List (S84))).bind fun y879 => ((some (y879.set (x5 : Int).toNat (⟨(rd_T84 y879 x5).f0, wrap64 (x1 + 1), (rd_T84 y879 x5).f2⟩ : S84) : List (S84))).bind fun y880 => (laws_markTallyS.l0 k (y880.set (x5 : Int).toNat (⟨(rd_T84 y880 x5).f0, (rd_T84 y880 x5).f1, wrap64 ((wrap64 (x1 + 1)) + 1)⟩ : S84)) (wrap64 ((wrap64 ((wrap64 (x1 + 1)) + 1)) + 1)) (wrap64 (x5 + 1))))) else (none))) else (some (x1, x0))
def laws_markTallyS.f (k : Nat) (l0 : List (S84)) (a1 : Int) : Option (Int × (List (S84))) := laws_markTallyS.l0 k l0 a1 0
set_option maxHeartbeats 8000000 in
set_option maxRecDepth 100000 in
theorem laws_markTallyS.calls (k : Nat) (P0_ : Nat → Prop) (u9000_ : Value) (l0 : List (S84)) (a1 : Int) (r1 : Int) (r2 : List (S84)) (w0 w : World) (hB : Below w0.heap.size w0 w) (ho0 : Kd.R k84 84 w w0.heap.size P0_ u9000_ l0) (h : laws_markTallyS.f k l0 a1 = some (r1, r2)) :
  Calls Try.prog 81 #[u9000_, .int .i64 a1] w fun e w' => e = .returned (.int .i64 r1) ∧ Kd.R k84 84 w' w0.heap.size (fun k_ => (P0_ k_ ∨ w.heap.size ≤ k_)) u9000_ r2 ∧ Below w0.heap.size w0 w' ∧ Kept w w' (fun k_ => P0_ k_) := by
 have HO0 := Aside0.mk (show Kd.R k84 84 w w0.heap.size (fun k_ => (P0_ k_ ∨ w.heap.size ≤ k_)) u9000_ l0 from Kd.R_mono ho0 (fun k_ hk => (.inl hk)))
 have HK := Aside0.mk (Kept.refl w (fun k_ => P0_ k_))
 have HW0 := Aside0.mk hB.size
 have HB := Aside0.mk hB
 clear hB
 have H : (laws_markTallyS.l0 k l0 a1 0) = some (r1, r2) := h
 clear h
 have H' := Aside0.mk H
 clear H
 go_enter Try.func81, Try.ntmps81
 go_wp2
 go_loopg [1, 5] k (fun kq v1 v5 w' => ∃ (x0_1 : List (S84)) (x1_1 : Int) (x5_1 : Int), v1 = .int .i64 x1_1 ∧ v5 = .int .i64 x5_1 ∧ Aside0 (laws_markTallyS.l0 kq x0_1 x1_1 x5_1 = some (r1, r2)) ∧ Aside0 (kq ≤ k) ∧ Aside0 (Kd.R k84 84 w' w0.heap.size (fun k_ => (P0_ k_ ∨ w.heap.size ≤ k_)) u9000_ x0_1) ∧ Aside0 (Kept w w' (fun k_ => P0_ k_)) ∧ Aside0 (Below w0.heap.size w0 w'))
 case atStart => exact ⟨(l0), (a1), (0), z31_10, z31_10, H', ⟨Nat.le_refl _⟩, ⟨z31_12⟩, ⟨z31_4⟩, ⟨z31_0⟩⟩
 case round =>
  clear H'
  try clear p2
  obtain ⟨x0_1, x1_1, x5_1, rfl, rfl, HA, HK1, HO_0, HK, HB⟩ := hrel
  cases gk with
  | zero => exact absurd HA.out (by simp [laws_markTallyS.l0])
  | succ k1 =>
   have H := HA.out
   clear HA
   simp only [laws_markTallyS.l0] at H
   by_cases c3 : x5_1 < (x0_1.length : Int)
   rotate_left
   ·
    rw [if_neg c3] at H
    have c3b0 : decide (x5_1 < (x0_1.length : Int)) = false := decide_eq_false c3
    clear c3
    simp only [Option.some.injEq, Prod.mk.injEq] at H
    obtain ⟨rfl, rfl⟩ := H
    obtain ⟨Ao17, co17, eo17⟩ := Kd.R_slice HO_0.out
    subst eo17
    go_wp2
    go_ret
    exact ⟨z31_8, z31_6, z31_0, z31_4⟩
   rw [if_pos c3] at H
   have c3b0 : decide (x5_1 < (x0_1.length : Int)) = true := decide_eq_true c3
   clear c3
   replace H := Option.bind_eq_some_iff.mp H
   obtain ⟨t878, A40, H⟩ := H
   (try dsimp only at H)
   have A4 := Aside0.mk A40
   clear A40
   by_cases c5 : 0 ≤ x5_1
   rotate_left
   ·
    rw [if_neg c5] at H
    exact absurd H (by simp)
   rw [if_pos c5] at H
   have c5b0 : decide (0 ≤ x5_1) = true := decide_eq_true c5
   clear c5
   obtain ⟨y879, hy879⟩ : ∃ y_ : List (S84), y_ = (x0_1.set (x5_1 : Int).toNat (⟨t878, (rd_T84 x0_1 x5_1).f1, (rd_T84 x0_1 x5_1).f2⟩ : S84)) := ⟨_, rfl⟩
   replace H : ((some (y879.set (x5_1 : Int).toNat (⟨(rd_T84 y879 x5_1).f0, wrap64 (x1_1 + 1), (rd_T84 y879 x5_1).f2⟩ : S84) : List (S84))).bind fun y880 => (laws_markTallyS.l0 k1 (y880.set (x5_1 : Int).toNat (⟨(rd_T84 y880 x5_1).f0, (rd_T84 y880 x5_1).f1, wrap64 ((wrap64 (x1_1 + 1)) + 1)⟩ : S84)) (wrap64 ((wrap64 ((wrap64 (x1_1 + 1)) + 1)) + 1)) (wrap64 (x5_1 + 1)))) = some (r1, r2) := by first | (rw [hy879]; with_reducible exact H) | (have H2_ := (Option.bind_some _ _).symm.trans H; rw [hy879]; with_reducible exact H2_) | (have H2_ := (Option.bind_some _ _).symm.trans H; with_reducible exact H2_) | with_reducible exact H | (rw [hy879]; exact H) | exact H
   have Ny879 := Aside0.mk hy879
   clear hy879
   obtain ⟨y880, hy880⟩ : ∃ y_ : List (S84), y_ = (y879.set (x5_1 : Int).toNat (⟨(rd_T84 y879 x5_1).f0, wrap64 (x1_1 + 1), (rd_T84 y879 x5_1).f2⟩ : S84)) := ⟨_, rfl⟩
   replace H : (laws_markTallyS.l0 k1 (y880.set (x5_1 : Int).toNat (⟨(rd_T84 y880 x5_1).f0, (rd_T84 y880 x5_1).f1, wrap64 ((wrap64 (x1_1 + 1)) + 1)⟩ : S84)) (wrap64 ((wrap64 ((wrap64 (x1_1 + 1)) + 1)) + 1)) (wrap64 (x5_1 + 1))) = some (r1, r2) := by first | (rw [hy880]; with_reducible exact H) | (have H2_ := (Option.bind_some _ _).symm.trans H; rw [hy880]; with_reducible exact H2_) | (have H2_ := (Option.bind_some _ _).symm.trans H; with_reducible exact H2_) | with_reducible exact H | (rw [hy880]; exact H) | exact H
   have Ny880 := Aside0.mk hy880
   clear hy880
   obtain ⟨y881, hy881⟩ : ∃ y_ : List (S84), y_ = (y880.set (x5_1 : Int).toNat (⟨(rd_T84 y880 x5_1).f0, (rd_T84 y880 x5_1).f1, wrap64 ((wrap64 (x1_1 + 1)) + 1)⟩ : S84)) := ⟨_, rfl⟩
   replace H : (laws_markTallyS.l0 k1 y881 (wrap64 ((wrap64 ((wrap64 (x1_1 + 1)) + 1)) + 1)) (wrap64 (x5_1 + 1))) = some (r1, r2) := by first | (rw [hy881]; with_reducible exact H) | (have H2_ := (Option.bind_some _ _).symm.trans H; rw [hy881]; with_reducible exact H2_) | (have H2_ := (Option.bind_some _ _).symm.trans H; with_reducible exact H2_) | with_reducible exact H | (rw [hy881]; exact H) | exact H
   have Ny881 := Aside0.mk hy881
   clear hy881
   have H' := Aside0.mk H
   clear H
   obtain ⟨Ao9, co9, eo9⟩ := Kd.R_slice HO_0.out
   subst eo9
   go_wp2_with (first | ((with_reducible refine gate_callee (f := 89) rfl ?_); refine goesL_ (some 15) rfl rfl Try.func89 z31_13 rfl #[.int .i64 x1_1] rfl z31_7 ?_; (with_reducible refine (laws_markText.calls k1 x1_1 t878 _ A4.out).mono ?_); rintro e w10 ⟨rfl, hb⟩; refine ⟨_, rfl, ?_⟩; replace HO_0 := Aside0.mk (Kd.R_below z31_6 hb); replace HK := Aside0.mk (Kept.below (S := (fun k_ => P0_ k_)) z31_4 hb); replace HB := Aside0.mk (below_step z31_0 hb); have p6 : 0 ≤ (x5_1 : Int) := of_decide_eq_true z31_1; have q6 : (x5_1 : Int) < ((x0_1.length : Int) : Int) := of_decide_eq_true z31_1; obtain ⟨go6, co6, eo6, gb6, gl6, cl6, HG6⟩ := Kd.R_form HO_0.out (by omega); (first | cases eo6 | (injection eo6 with ea_ en_ ec_; (first | subst ea_ | (injection ea_ with ea_; subst ea_)); subst ec_; clear en_)); have GB6 := Aside0.mk gb6; have GG6 := Aside0.mk HG6; clear gb6 gl6 HG6; have HMgo6 := Aside0.mk (show (P0_ go6 ∨ w.heap.size ≤ go6) from (HO_0.out.1 _ rfl)); obtain ⟨ce6, hcl6, hM6, hcc6, hfr6⟩ := Kd.R_elem HO_0.out z84 (x5_1 : Int) p6 q6; obtain rfl := k84_openM hM6; clear hcl6 hcc6 hfr6 hM6; replace p6 := eq_true p6; replace q6 := eq_true q6; have HX11 := Aside0.mk (show Kd.R k84 84 w10 w0.heap.size (fun k_ => (P0_ k_ ∨ w.heap.size ≤ k_)) (.slice (some ⟨go6, 0, none⟩) x0_1.length co9) x0_1 from z31_6); obtain ⟨ce11, hcl11, hM11, hcc11, hfr11⟩ := Kd.R_elem HX11.out z84 (x5_1 : Int) (of_decide_eq_true z31_1) (by have h_ : (x5_1 : Int) < ((x0_1.length : Int) : Int) := of_decide_eq_true z31_1; first | exact h_ | (have e_ := (Kd.R_reads' HO_0.out).1; omega) | simpa using h_); obtain rfl := k84_openM hM11; have HP11 := Kd.R_seg HX11.out (x5_1 : Int) (of_decide_eq_true z31_1) (by have h_ : (x5_1 : Int) < ((x0_1.length : Int) : Int) := of_decide_eq_true z31_1; first | exact h_ | (have e_ := (Kd.R_reads' HO_0.out).1; omega) | simpa using h_) (seg := [.string t878]) (j := 0) hcl11 hcc11 (show 1 ≤ 3 from by decide) (x' := (⟨t878, (rd_T84 x0_1 x5_1).f1, (rd_T84 x0_1 x5_1).f2⟩ : S84)) (k84_mkM _ _ _ (⟨t878, (rd_T84 x0_1 x5_1).f1, (rd_T84 x0_1 x5_1).f2⟩ : S84) ) (fun _ hk => hk); have hx11_0 := hcc11 0 _ rfl; (try simp only [show (k84).sz = 3 from rfl, Nat.mul_one, Nat.add_zero] at hx11_0); have hf11_0 := hfr11 0; (try simp only [show (k84).sz = 3 from rfl, Nat.mul_one, Nat.add_zero] at hf11_0); clear hcl11 hcc11 hfr11 hM11) | ((with_reducible refine gate_store (t := 9) (p := 17) rfl ?_); refine store_event (t := 9) (p := 17) (v := ?vo_w12) (w1 := (w10.setCell ⟨go6, (x5_1 : Int).toNat * 3, none⟩ (.string t878))) ?hg ?ho ?hn ?hr ?_; (case ho => rfl); (case hg => rfl); (case hn => rfl); (case hr => first | (go_simp; done) | (go_simp; rfl)); intro w12 hw; have hg : w10.grownBy w12 (some go6) := (by rw [hw]; exact HP11.2); have hp_ : Kd.R k84 84 w12 w0.heap.size (fun k_ => (P0_ k_ ∨ w.heap.size ≤ k_)) (.slice (some ⟨go6, 0, none⟩) x0_1.length co9) y879 := (by rw [hw, Ny879.out]; exact HP11.1); clear HP11; replace HB := Aside0.mk ((by rw [hw]; exact below_set (HB.out) GB6.out : Below w0.heap.size w0 w12)); replace HK := Aside0.mk (Kept.of_grown (S := (fun k_ => P0_ k_)) hg z31_4 (fun k_ e_ => (HO_0.out.1 k_ e_))); replace HO_0 := Aside0.mk (hp_); clear hg hw hp_; have HX13 := Aside0.mk (show Kd.R k84 84 w12 w0.heap.size (fun k_ => (P0_ k_ ∨ w.heap.size ≤ k_)) (.slice (some ⟨go6, 0, none⟩) x0_1.length co9) y879 from z31_6); obtain ⟨ce13, hcl13, hM13, hcc13, hfr13⟩ := Kd.R_elem HX13.out z84 (x5_1 : Int) (of_decide_eq_true z31_1) (by have h_ : (x5_1 : Int) < ((x0_1.length : Int) : Int) := of_decide_eq_true z31_1; first | exact h_ | (have e_ := (Kd.R_reads' HO_0.out).1; omega) | simpa using h_); obtain rfl := k84_openM hM13; have HP13 := Kd.R_seg HX13.out (x5_1 : Int) (of_decide_eq_true z31_1) (by have h_ : (x5_1 : Int) < ((x0_1.length : Int) : Int) := of_decide_eq_true z31_1; first | exact h_ | (have e_ := (Kd.R_reads' HO_0.out).1; omega) | simpa using h_) (seg := [.int .i64 (wrap64 (x1_1 + 1))]) (j := 1) hcl13 hcc13 (show 2 ≤ 3 from by decide) (x' := (⟨(rd_T84 y879 x5_1).f0, wrap64 (x1_1 + 1), (rd_T84 y879 x5_1).f2⟩ : S84)) (k84_mkM _ _ _ (⟨(rd_T84 y879 x5_1).f0, wrap64 (x1_1 + 1), (rd_T84 y879 x5_1).f2⟩ : S84) ) (fun _ hk => hk); have hx13_1 := hcc13 1 _ rfl; (try simp only [show (k84).sz = 3 from rfl, Nat.mul_one, Nat.add_zero] at hx13_1); have hf13_1 := hfr13 1; (try simp only [show (k84).sz = 3 from rfl, Nat.mul_one, Nat.add_zero] at hf13_1); clear hcl13 hcc13 hfr13 hM13) | ((with_reducible refine gate_store (t := 3) (p := 24) rfl ?_); refine store_event (t := 3) (p := 24) (v := ?vo_w14) (w1 := (w12.setCell ⟨go6, (x5_1 : Int).toNat * 3 + 1, none⟩ (.int .i64 (wrap64 (x1_1 + 1))))) ?hg ?ho ?hn ?hr ?_; (case ho => rfl); (case hg => rfl); (case hn => rfl); (case hr => first | (go_simp; done) | (go_simp; rfl)); intro w14 hw; have hg : w12.grownBy w14 (some go6) := (by rw [hw]; exact HP13.2); have hp_ : Kd.R k84 84 w14 w0.heap.size (fun k_ => (P0_ k_ ∨ w.heap.size ≤ k_)) (.slice (some ⟨go6, 0, none⟩) x0_1.length co9) y880 := (by rw [hw, Ny880.out]; exact HP13.1); clear HP13; replace HB := Aside0.mk ((by rw [hw]; exact below_set (HB.out) GB6.out : Below w0.heap.size w0 w14)); replace HK := Aside0.mk (Kept.of_grown (S := (fun k_ => P0_ k_)) hg z31_4 (fun k_ e_ => (HO_0.out.1 k_ e_))); replace HO_0 := Aside0.mk (hp_); clear hg hw hp_; have HX15 := Aside0.mk (show Kd.R k84 84 w14 w0.heap.size (fun k_ => (P0_ k_ ∨ w.heap.size ≤ k_)) (.slice (some ⟨go6, 0, none⟩) x0_1.length co9) y880 from z31_6); obtain ⟨ce15, hcl15, hM15, hcc15, hfr15⟩ := Kd.R_elem HX15.out z84 (x5_1 : Int) (of_decide_eq_true z31_1) (by have h_ : (x5_1 : Int) < ((x0_1.length : Int) : Int) := of_decide_eq_true z31_1; first | exact h_ | (have e_ := (Kd.R_reads' HO_0.out).1; omega) | simpa using h_); obtain rfl := k84_openM hM15; have HP15 := Kd.R_seg HX15.out (x5_1 : Int) (of_decide_eq_true z31_1) (by have h_ : (x5_1 : Int) < ((x0_1.length : Int) : Int) := of_decide_eq_true z31_1; first | exact h_ | (have e_ := (Kd.R_reads' HO_0.out).1; omega) | simpa using h_) (seg := [.int .i64 (wrap64 ((wrap64 (x1_1 + 1)) + 1))]) (j := 2) hcl15 hcc15 (show 3 ≤ 3 from by decide) (x' := (⟨(rd_T84 y880 x5_1).f0, (rd_T84 y880 x5_1).f1, wrap64 ((wrap64 (x1_1 + 1)) + 1)⟩ : S84)) (k84_mkM _ _ _ (⟨(rd_T84 y880 x5_1).f0, (rd_T84 y880 x5_1).f1, wrap64 ((wrap64 (x1_1 + 1)) + 1)⟩ : S84) ) (fun _ hk => hk); have hx15_2 := hcc15 2 _ rfl; (try simp only [show (k84).sz = 3 from rfl, Nat.mul_one, Nat.add_zero] at hx15_2); have hf15_2 := hfr15 2; (try simp only [show (k84).sz = 3 from rfl, Nat.mul_one, Nat.add_zero] at hf15_2); clear hcl15 hcc15 hfr15 hM15) | ((with_reducible refine gate_store (t := 3) (p := 31) rfl ?_); refine store_event (t := 3) (p := 31) (v := ?vo_w16) (w1 := (w14.setCell ⟨go6, (x5_1 : Int).toNat * 3 + 2, none⟩ (.int .i64 (wrap64 ((wrap64 (x1_1 + 1)) + 1))))) ?hg ?ho ?hn ?hr ?_; (case ho => rfl); (case hg => rfl); (case hn => rfl); (case hr => first | (go_simp; done) | (go_simp; rfl)); intro w16 hw; have hg : w14.grownBy w16 (some go6) := (by rw [hw]; exact HP15.2); have hp_ : Kd.R k84 84 w16 w0.heap.size (fun k_ => (P0_ k_ ∨ w.heap.size ≤ k_)) (.slice (some ⟨go6, 0, none⟩) x0_1.length co9) y881 := (by rw [hw, Ny881.out]; exact HP15.1); clear HP15; replace HB := Aside0.mk ((by rw [hw]; exact below_set (HB.out) GB6.out : Below w0.heap.size w0 w16)); replace HK := Aside0.mk (Kept.of_grown (S := (fun k_ => P0_ k_)) hg z31_4 (fun k_ e_ => (HO_0.out.1 k_ e_))); replace HO_0 := Aside0.mk (hp_); clear hg hw hp_))
   go_roundg k1
   case measure => have := HK1.out; omega
   case rel => exact ⟨(y881), (wrap64 ((wrap64 ((wrap64 (x1_1 + 1)) + 1)) + 1)), (wrap64 (x5_1 + 1)), z31_10, z31_10, H', ⟨by have := HK1.out; omega⟩, ⟨z31_6⟩, ⟨z31_4⟩, ⟨z31_0⟩⟩
def laws_markLiveS.l0 : Nat → List (S86) → Int → Int → Option (Int × (List (S86)))
  | 0, _, _, _ => none
  | k + 1, x0, x1, x5 => if x5 < (x0.length : Int) then (if 0 ≤ x5 then ((some (x0.set (x5 : Int).toNat (⟨((Int.tmod x1 3) == 0), (rd_T86 x0 x5).f1, (rd_T86 x0 x5).f2, (rd_T86 x0 x5).f3, (⟨(rd_T86 x0 x5).f4.f0, (rd_T86 x0 x5).f4.f1⟩ : S38)⟩ : S86) : List (S86))).bind fun y882 => ((laws_markText.f k (wrap64 (x1 + 1))).bind fun t883 => ((some (y882.set (x5 : Int).toNat (⟨(rd_T86 y882 x5).f0, t883, (rd_T86 y882 x5).f2, (rd_T86 y882 x5).f3, (⟨(rd_T86 y882 x5).f4.f0, (rd_T86 y882 x5).f4.f1⟩ : S38)⟩ : S86) : List (S86))).bind fun y884 => ((laws_markText.f k (wrap64 ((wrap64 (x1 + 1)) + 1))).bind fun t885 => ((some (y884.set (x5 : Int).toNat (⟨(rd_T86 y884 x5).f0, (rd_T86 y884 x5).f1, t885, (rd_T86 y884 x5).f3, (⟨(rd_T86 y884 x5).f4.f0, (rd_T86 y884 x5).f4.f1⟩ : S38)⟩ : S86) : List (S86))).bind fun y886 => ((some (y886.set (x5 : Int).toNat (⟨(rd_T86 y886 x5).f0, (rd_T86 y886 x5).f1, (rd_T86 y886 x5).f2, wrap64 ((wrap64 ((wrap64 (x1 + 1)) + 1)) + 1), (⟨(rd_T86 y886 x5).f4.f0, (rd_T86 y886 x5).f4.f1⟩ : S38)⟩ : S86) : List (S86))).bind fun y887 => ((some (y887.set (x5 : Int).toNat (⟨(rd_T86 y887 x5).f0, (rd_T86 y887 x5).f1, (rd_T86 y887 x5).f2, (rd_T86 y887 x5).f3, (⟨wrap64 ((wrap64 ((wrap64 ((wrap64 (x1 + 1)) + 1)) + 1)) + 1), (rd_T86 y887 x5).f4.f1⟩ : S38)⟩ : S86) : List (S86))).bind fun y888 => (laws_markLiveS.l0 k (y888.set (x5 : Int).toNat (⟨(rd_T86 y888 x5).f0, (rd_T86 y888 x5).f1, (rd_T86 y888 x5).f2, (rd_T86 y888 x5).f3, (⟨(rd_T86 y888 x5).f4.f0, wrap64 ((wrap64 ((wrap64 ((wrap64 ((wrap64 (x1 + 1)) + 1)) + 1)) + 1)) + 1)⟩ : S38)⟩ : S86)) (wrap64 ((wrap64 ((wrap64 ((wrap64 ((wrap64 ((wrap64 (x1 + 1)) + 1)) + 1)) + 1)) + 1)) + 1)) (wrap64 (x5 + 1)))))))))) else (none)) else (some (x1, x0))
def laws_markLiveS.f (k : Nat) (l0 : List (S86)) (a1 : Int) : Option (Int × (List (S86))) := laws_markLiveS.l0 k l0 a1 0
set_option maxHeartbeats 8000000 in
set_option maxRecDepth 100000 in
theorem laws_markLiveS.calls (k : Nat) (P0_ : Nat → Prop) (u9000_ : Value) (l0 : List (S86)) (a1 : Int) (r1 : Int) (r2 : List (S86)) (w0 w : World) (hB : Below w0.heap.size w0 w) (ho0 : Kd.R k86 86 w w0.heap.size P0_ u9000_ l0) (h : laws_markLiveS.f k l0 a1 = some (r1, r2)) :
  Calls Try.prog 82 #[u9000_, .int .i64 a1] w fun e w' => e = .returned (.int .i64 r1) ∧ Kd.R k86 86 w' w0.heap.size (fun k_ => (P0_ k_ ∨ w.heap.size ≤ k_)) u9000_ r2 ∧ Below w0.heap.size w0 w' ∧ Kept w w' (fun k_ => P0_ k_) := by
 have HO0 := Aside0.mk (show Kd.R k86 86 w w0.heap.size (fun k_ => (P0_ k_ ∨ w.heap.size ≤ k_)) u9000_ l0 from Kd.R_mono ho0 (fun k_ hk => (.inl hk)))
 have HK := Aside0.mk (Kept.refl w (fun k_ => P0_ k_))
 have HW0 := Aside0.mk hB.size
 have HB := Aside0.mk hB
 clear hB
 have H : (laws_markLiveS.l0 k l0 a1 0) = some (r1, r2) := h
 clear h
 have H' := Aside0.mk H
 clear H
 go_enter Try.func82, Try.ntmps82
 go_wp2
 go_loopg [1, 5] k (fun kq v1 v5 w' => ∃ (x0_1 : List (S86)) (x1_1 : Int) (x5_1 : Int), v1 = .int .i64 x1_1 ∧ v5 = .int .i64 x5_1 ∧ Aside0 (laws_markLiveS.l0 kq x0_1 x1_1 x5_1 = some (r1, r2)) ∧ Aside0 (kq ≤ k) ∧ Aside0 (Kd.R k86 86 w' w0.heap.size (fun k_ => (P0_ k_ ∨ w.heap.size ≤ k_)) u9000_ x0_1) ∧ Aside0 (Kept w w' (fun k_ => P0_ k_)) ∧ Aside0 (Below w0.heap.size w0 w'))
 case atStart => exact ⟨(l0), (a1), (0), z31_10, z31_10, H', ⟨Nat.le_refl _⟩, ⟨z31_12⟩, ⟨z31_4⟩, ⟨z31_0⟩⟩
 case round =>
  clear H'
  try clear p2
  obtain ⟨x0_1, x1_1, x5_1, rfl, rfl, HA, HK1, HO_0, HK, HB⟩ := hrel
  cases gk with
  | zero => exact absurd HA.out (by simp [laws_markLiveS.l0])
  | succ k1 =>
   have H := HA.out
   clear HA
   simp only [laws_markLiveS.l0] at H
   by_cases c3 : x5_1 < (x0_1.length : Int)
   rotate_left
   ·
    rw [if_neg c3] at H
    have c3b0 : decide (x5_1 < (x0_1.length : Int)) = false := decide_eq_false c3
    clear c3
    simp only [Option.some.injEq, Prod.mk.injEq] at H
    obtain ⟨rfl, rfl⟩ := H
    obtain ⟨Ao28, co28, eo28⟩ := Kd.R_slice HO_0.out
    subst eo28
    go_wp2
    go_ret
    exact ⟨z31_8, z31_6, z31_0, z31_4⟩
   rw [if_pos c3] at H
   have c3b0 : decide (x5_1 < (x0_1.length : Int)) = true := decide_eq_true c3
   clear c3
   by_cases c4 : 0 ≤ x5_1
   rotate_left
   ·
    rw [if_neg c4] at H
    exact absurd H (by simp)
   rw [if_pos c4] at H
   have c4b0 : decide (0 ≤ x5_1) = true := decide_eq_true c4
   clear c4
   obtain ⟨y882, hy882⟩ : ∃ y_ : List (S86), y_ = (x0_1.set (x5_1 : Int).toNat (⟨((Int.tmod x1_1 3) == 0), (rd_T86 x0_1 x5_1).f1, (rd_T86 x0_1 x5_1).f2, (rd_T86 x0_1 x5_1).f3, (⟨(rd_T86 x0_1 x5_1).f4.f0, (rd_T86 x0_1 x5_1).f4.f1⟩ : S38)⟩ : S86)) := ⟨_, rfl⟩
   replace H : ((laws_markText.f k1 (wrap64 (x1_1 + 1))).bind fun t883 => ((some (y882.set (x5_1 : Int).toNat (⟨(rd_T86 y882 x5_1).f0, t883, (rd_T86 y882 x5_1).f2, (rd_T86 y882 x5_1).f3, (⟨(rd_T86 y882 x5_1).f4.f0, (rd_T86 y882 x5_1).f4.f1⟩ : S38)⟩ : S86) : List (S86))).bind fun y884 => ((laws_markText.f k1 (wrap64 ((wrap64 (x1_1 + 1)) + 1))).bind fun t885 => ((some (y884.set (x5_1 : Int).toNat (⟨(rd_T86 y884 x5_1).f0, (rd_T86 y884 x5_1).f1, t885, (rd_T86 y884 x5_1).f3, (⟨(rd_T86 y884 x5_1).f4.f0, (rd_T86 y884 x5_1).f4.f1⟩ : S38)⟩ : S86) : List (S86))).bind fun y886 => ((some (y886.set (x5_1 : Int).toNat (⟨(rd_T86 y886 x5_1).f0, (rd_T86 y886 x5_1).f1, (rd_T86 y886 x5_1).f2, wrap64 ((wrap64 ((wrap64 (x1_1 + 1)) + 1)) + 1), (⟨(rd_T86 y886 x5_1).f4.f0, (rd_T86 y886 x5_1).f4.f1⟩ : S38)⟩ : S86) : List (S86))).bind fun y887 => ((some (y887.set (x5_1 : Int).toNat (⟨(rd_T86 y887 x5_1).f0, (rd_T86 y887 x5_1).f1, (rd_T86 y887 x5_1).f2, (rd_T86 y887 x5_1).f3, (⟨wrap64 ((wrap64 ((wrap64 ((wrap64 (x1_1 + 1)) + 1)) + 1)) + 1), (rd_T86 y887 x5_1).f4.f1⟩ : S38)⟩ : S86) : List (S86))).bind fun y888 => (laws_markLiveS.l0 k1 (y888.set (x5_1 : Int).toNat (⟨(rd_T86 y888 x5_1).f0, (rd_T86 y888 x5_1).f1, (rd_T86 y888 x5_1).f2, (rd_T86 y888 x5_1).f3, (⟨(rd_T86 y888 x5_1).f4.f0, wrap64 ((wrap64 ((wrap64 ((wrap64 ((wrap64 (x1_1 + 1)) + 1)) + 1)) + 1)) + 1)⟩ : S38)⟩ : S86)) (wrap64 ((wrap64 ((wrap64 ((wrap64 ((wrap64 ((wrap64 (x1_1 + 1)) + 1)) + 1)) + 1)) + 1)) + 1)) (wrap64 (x5_1 + 1))))))))) = some (r1, r2) := by first | (rw [hy882]; with_reducible exact H) | (have H2_ := (Option.bind_some _ _).symm.trans H; rw [hy882]; with_reducible exact H2_) | (have H2_ := (Option.bind_some _ _).symm.trans H; with_reducible exact H2_) | with_reducible exact H | (rw [hy882]; exact H) | exact H
   have Ny882 := Aside0.mk hy882
   clear hy882
   replace H := Option.bind_eq_some_iff.mp H
   obtain ⟨t883, A60, H⟩ := H
   (try dsimp only at H)
   have A6 := Aside0.mk A60
   clear A60
   obtain ⟨y884, hy884⟩ : ∃ y_ : List (S86), y_ = (y882.set (x5_1 : Int).toNat (⟨(rd_T86 y882 x5_1).f0, t883, (rd_T86 y882 x5_1).f2, (rd_T86 y882 x5_1).f3, (⟨(rd_T86 y882 x5_1).f4.f0, (rd_T86 y882 x5_1).f4.f1⟩ : S38)⟩ : S86)) := ⟨_, rfl⟩
   replace H : ((laws_markText.f k1 (wrap64 ((wrap64 (x1_1 + 1)) + 1))).bind fun t885 => ((some (y884.set (x5_1 : Int).toNat (⟨(rd_T86 y884 x5_1).f0, (rd_T86 y884 x5_1).f1, t885, (rd_T86 y884 x5_1).f3, (⟨(rd_T86 y884 x5_1).f4.f0, (rd_T86 y884 x5_1).f4.f1⟩ : S38)⟩ : S86) : List (S86))).bind fun y886 => ((some (y886.set (x5_1 : Int).toNat (⟨(rd_T86 y886 x5_1).f0, (rd_T86 y886 x5_1).f1, (rd_T86 y886 x5_1).f2, wrap64 ((wrap64 ((wrap64 (x1_1 + 1)) + 1)) + 1), (⟨(rd_T86 y886 x5_1).f4.f0, (rd_T86 y886 x5_1).f4.f1⟩ : S38)⟩ : S86) : List (S86))).bind fun y887 => ((some (y887.set (x5_1 : Int).toNat (⟨(rd_T86 y887 x5_1).f0, (rd_T86 y887 x5_1).f1, (rd_T86 y887 x5_1).f2, (rd_T86 y887 x5_1).f3, (⟨wrap64 ((wrap64 ((wrap64 ((wrap64 (x1_1 + 1)) + 1)) + 1)) + 1), (rd_T86 y887 x5_1).f4.f1⟩ : S38)⟩ : S86) : List (S86))).bind fun y888 => (laws_markLiveS.l0 k1 (y888.set (x5_1 : Int).toNat (⟨(rd_T86 y888 x5_1).f0, (rd_T86 y888 x5_1).f1, (rd_T86 y888 x5_1).f2, (rd_T86 y888 x5_1).f3, (⟨(rd_T86 y888 x5_1).f4.f0, wrap64 ((wrap64 ((wrap64 ((wrap64 ((wrap64 (x1_1 + 1)) + 1)) + 1)) + 1)) + 1)⟩ : S38)⟩ : S86)) (wrap64 ((wrap64 ((wrap64 ((wrap64 ((wrap64 ((wrap64 (x1_1 + 1)) + 1)) + 1)) + 1)) + 1)) + 1)) (wrap64 (x5_1 + 1))))))) = some (r1, r2) := by first | (rw [hy884]; with_reducible exact H) | (have H2_ := (Option.bind_some _ _).symm.trans H; rw [hy884]; with_reducible exact H2_) | (have H2_ := (Option.bind_some _ _).symm.trans H; with_reducible exact H2_) | with_reducible exact H | (rw [hy884]; exact H) | exact H
   have Ny884 := Aside0.mk hy884
   clear hy884
   replace H := Option.bind_eq_some_iff.mp H
   obtain ⟨t885, A80, H⟩ := H
   (try dsimp only at H)
   have A8 := Aside0.mk A80
   clear A80
   obtain ⟨y886, hy886⟩ : ∃ y_ : List (S86), y_ = (y884.set (x5_1 : Int).toNat (⟨(rd_T86 y884 x5_1).f0, (rd_T86 y884 x5_1).f1, t885, (rd_T86 y884 x5_1).f3, (⟨(rd_T86 y884 x5_1).f4.f0, (rd_T86 y884 x5_1).f4.f1⟩ : S38)⟩ : S86)) := ⟨_, rfl⟩
   replace H : ((some (y886.set (x5_1 : Int).toNat (⟨(rd_T86 y886 x5_1).f0, (rd_T86 y886 x5_1).f1, (rd_T86 y886 x5_1).f2, wrap64 ((wrap64 ((wrap64 (x1_1 + 1)) + 1)) + 1), (⟨(rd_T86 y886 x5_1).f4.f0, (rd_T86 y886 x5_1).f4.f1⟩ : S38)⟩ : S86) : List (S86))).bind fun y887 => ((some (y887.set (x5_1 : Int).toNat (⟨(rd_T86 y887 x5_1).f0, (rd_T86 y887 x5_1).f1, (rd_T86 y887 x5_1).f2, (rd_T86 y887 x5_1).f3, (⟨wrap64 ((wrap64 ((wrap64 ((wrap64 (x1_1 + 1)) + 1)) + 1)) + 1), (rd_T86 y887 x5_1).f4.f1⟩ : S38)⟩ : S86) : List (S86))).bind fun y888 => (laws_markLiveS.l0 k1 (y888.set (x5_1 : Int).toNat (⟨(rd_T86 y888 x5_1).f0, (rd_T86 y888 x5_1).f1, (rd_T86 y888 x5_1).f2, (rd_T86 y888 x5_1).f3, (⟨(rd_T86 y888 x5_1).f4.f0, wrap64 ((wrap64 ((wrap64 ((wrap64 ((wrap64 (x1_1 + 1)) + 1)) + 1)) + 1)) + 1)⟩ : S38)⟩ : S86)) (wrap64 ((wrap64 ((wrap64 ((wrap64 ((wrap64 ((wrap64 (x1_1 + 1)) + 1)) + 1)) + 1)) + 1)) + 1)) (wrap64 (x5_1 + 1))))) = some (r1, r2) := by first | (rw [hy886]; with_reducible exact H) | (have H2_ := (Option.bind_some _ _).symm.trans H; rw [hy886]; with_reducible exact H2_) | (have H2_ := (Option.bind_some _ _).symm.trans H; with_reducible exact H2_) | with_reducible exact H | (rw [hy886]; exact H) | exact H
   have Ny886 := Aside0.mk hy886
   clear hy886
   obtain ⟨y887, hy887⟩ : ∃ y_ : List (S86), y_ = (y886.set (x5_1 : Int).toNat (⟨(rd_T86 y886 x5_1).f0, (rd_T86 y886 x5_1).f1, (rd_T86 y886 x5_1).f2, wrap64 ((wrap64 ((wrap64 (x1_1 + 1)) + 1)) + 1), (⟨(rd_T86 y886 x5_1).f4.f0, (rd_T86 y886 x5_1).f4.f1⟩ : S38)⟩ : S86)) := ⟨_, rfl⟩
   replace H : ((some (y887.set (x5_1 : Int).toNat (⟨(rd_T86 y887 x5_1).f0, (rd_T86 y887 x5_1).f1, (rd_T86 y887 x5_1).f2, (rd_T86 y887 x5_1).f3, (⟨wrap64 ((wrap64 ((wrap64 ((wrap64 (x1_1 + 1)) + 1)) + 1)) + 1), (rd_T86 y887 x5_1).f4.f1⟩ : S38)⟩ : S86) : List (S86))).bind fun y888 => (laws_markLiveS.l0 k1 (y888.set (x5_1 : Int).toNat (⟨(rd_T86 y888 x5_1).f0, (rd_T86 y888 x5_1).f1, (rd_T86 y888 x5_1).f2, (rd_T86 y888 x5_1).f3, (⟨(rd_T86 y888 x5_1).f4.f0, wrap64 ((wrap64 ((wrap64 ((wrap64 ((wrap64 (x1_1 + 1)) + 1)) + 1)) + 1)) + 1)⟩ : S38)⟩ : S86)) (wrap64 ((wrap64 ((wrap64 ((wrap64 ((wrap64 ((wrap64 (x1_1 + 1)) + 1)) + 1)) + 1)) + 1)) + 1)) (wrap64 (x5_1 + 1)))) = some (r1, r2) := by first | (rw [hy887]; with_reducible exact H) | (have H2_ := (Option.bind_some _ _).symm.trans H; rw [hy887]; with_reducible exact H2_) | (have H2_ := (Option.bind_some _ _).symm.trans H; with_reducible exact H2_) | with_reducible exact H | (rw [hy887]; exact H) | exact H
   have Ny887 := Aside0.mk hy887
   clear hy887
   obtain ⟨y888, hy888⟩ : ∃ y_ : List (S86), y_ = (y887.set (x5_1 : Int).toNat (⟨(rd_T86 y887 x5_1).f0, (rd_T86 y887 x5_1).f1, (rd_T86 y887 x5_1).f2, (rd_T86 y887 x5_1).f3, (⟨wrap64 ((wrap64 ((wrap64 ((wrap64 (x1_1 + 1)) + 1)) + 1)) + 1), (rd_T86 y887 x5_1).f4.f1⟩ : S38)⟩ : S86)) := ⟨_, rfl⟩
   replace H : (laws_markLiveS.l0 k1 (y888.set (x5_1 : Int).toNat (⟨(rd_T86 y888 x5_1).f0, (rd_T86 y888 x5_1).f1, (rd_T86 y888 x5_1).f2, (rd_T86 y888 x5_1).f3, (⟨(rd_T86 y888 x5_1).f4.f0, wrap64 ((wrap64 ((wrap64 ((wrap64 ((wrap64 (x1_1 + 1)) + 1)) + 1)) + 1)) + 1)⟩ : S38)⟩ : S86)) (wrap64 ((wrap64 ((wrap64 ((wrap64 ((wrap64 ((wrap64 (x1_1 + 1)) + 1)) + 1)) + 1)) + 1)) + 1)) (wrap64 (x5_1 + 1))) = some (r1, r2) := by first | (rw [hy888]; with_reducible exact H) | (have H2_ := (Option.bind_some _ _).symm.trans H; rw [hy888]; with_reducible exact H2_) | (have H2_ := (Option.bind_some _ _).symm.trans H; with_reducible exact H2_) | with_reducible exact H | (rw [hy888]; exact H) | exact H
   have Ny888 := Aside0.mk hy888
   clear hy888
   obtain ⟨y889, hy889⟩ : ∃ y_ : List (S86), y_ = (y888.set (x5_1 : Int).toNat (⟨(rd_T86 y888 x5_1).f0, (rd_T86 y888 x5_1).f1, (rd_T86 y888 x5_1).f2, (rd_T86 y888 x5_1).f3, (⟨(rd_T86 y888 x5_1).f4.f0, wrap64 ((wrap64 ((wrap64 ((wrap64 ((wrap64 (x1_1 + 1)) + 1)) + 1)) + 1)) + 1)⟩ : S38)⟩ : S86)) := ⟨_, rfl⟩
   replace H : (laws_markLiveS.l0 k1 y889 (wrap64 ((wrap64 ((wrap64 ((wrap64 ((wrap64 ((wrap64 (x1_1 + 1)) + 1)) + 1)) + 1)) + 1)) + 1)) (wrap64 (x5_1 + 1))) = some (r1, r2) := by first | (rw [hy889]; with_reducible exact H) | (have H2_ := (Option.bind_some _ _).symm.trans H; rw [hy889]; with_reducible exact H2_) | (have H2_ := (Option.bind_some _ _).symm.trans H; with_reducible exact H2_) | with_reducible exact H | (rw [hy889]; exact H) | exact H
   have Ny889 := Aside0.mk hy889
   clear hy889
   have H' := Aside0.mk H
   clear H
   obtain ⟨Ao13, co13, eo13⟩ := Kd.R_slice HO_0.out
   subst eo13
   have p5 : 0 ≤ (x5_1 : Int) := of_decide_eq_true z31_1
   have q5 : (x5_1 : Int) < ((x0_1.length : Int) : Int) := of_decide_eq_true z31_1
   obtain ⟨go5, co5, eo5, gb5, gl5, cl5, HG5⟩ := Kd.R_form HO_0.out (by omega)
   (first | cases eo5 | (injection eo5 with ea_ en_ ec_; (first | subst ea_ | (injection ea_ with ea_; subst ea_)); subst ec_; clear en_))
   have GB5 := Aside0.mk gb5
   have GG5 := Aside0.mk HG5
   clear gb5 gl5 HG5
   have HMgo5 := Aside0.mk (show (P0_ go5 ∨ w.heap.size ≤ go5) from (HO_0.out.1 _ rfl))
   obtain ⟨ce5, hcl5, hM5, hcc5, hfr5⟩ := Kd.R_elem HO_0.out z86 (x5_1 : Int) p5 q5
   obtain rfl := k86_openM hM5
   have hx5_0 : wr.cell? ⟨go5, (x5_1 : Int).toNat * 6, none⟩ = some (.bool ((rd_T86 x0_1 x5_1).f0)) := hcc5 0 _ rfl
   have hx5_1 : wr.cell? ⟨go5, (x5_1 : Int).toNat * 6 + 1, none⟩ = some (.string ((rd_T86 x0_1 x5_1).f1)) := hcc5 1 _ rfl
   have hx5_2 : wr.cell? ⟨go5, (x5_1 : Int).toNat * 6 + 2, none⟩ = some (.string ((rd_T86 x0_1 x5_1).f2)) := hcc5 2 _ rfl
   have hx5_3 : wr.cell? ⟨go5, (x5_1 : Int).toNat * 6 + 3, none⟩ = some (.int .i64 ((rd_T86 x0_1 x5_1).f3)) := hcc5 3 _ rfl
   have hx5_4 : wr.cell? ⟨go5, (x5_1 : Int).toNat * 6 + 4, none⟩ = some (.int .i64 ((rd_T86 x0_1 x5_1).f4.f0)) := hcc5 4 _ rfl
   have hx5_5 : wr.cell? ⟨go5, (x5_1 : Int).toNat * 6 + 5, none⟩ = some (.int .i64 ((rd_T86 x0_1 x5_1).f4.f1)) := hcc5 5 _ rfl
   have hf5_0 : wr.frozen? ⟨go5, (x5_1 : Int).toNat * 6, none⟩ = false := hfr5 0
   have hf5_1 : wr.frozen? ⟨go5, (x5_1 : Int).toNat * 6 + 1, none⟩ = false := hfr5 1
   have hf5_2 : wr.frozen? ⟨go5, (x5_1 : Int).toNat * 6 + 2, none⟩ = false := hfr5 2
   have hf5_3 : wr.frozen? ⟨go5, (x5_1 : Int).toNat * 6 + 3, none⟩ = false := hfr5 3
   have hf5_4 : wr.frozen? ⟨go5, (x5_1 : Int).toNat * 6 + 4, none⟩ = false := hfr5 4
   have hf5_5 : wr.frozen? ⟨go5, (x5_1 : Int).toNat * 6 + 5, none⟩ = false := hfr5 5
   clear hcl5 hcc5 hfr5 hM5
   replace p5 := eq_true p5
   replace q5 := eq_true q5
   have HX14 := Aside0.mk (show Kd.R k86 86 wr w0.heap.size (fun k_ => (P0_ k_ ∨ w.heap.size ≤ k_)) (.slice (some ⟨go5, 0, none⟩) x0_1.length co13) x0_1 from z31_6)
   obtain ⟨ce14, hcl14, hM14, hcc14, hfr14⟩ := Kd.R_elem HX14.out z86 (x5_1 : Int) (of_decide_eq_true z31_1) (by have h_ : (x5_1 : Int) < ((x0_1.length : Int) : Int) := of_decide_eq_true z31_1; first | exact h_ | (have e_ := (Kd.R_reads' HO_0.out).1; omega) | simpa using h_)
   obtain rfl := k86_openM hM14
   have HP14 := Kd.R_seg HX14.out (x5_1 : Int) (of_decide_eq_true z31_1) (by have h_ : (x5_1 : Int) < ((x0_1.length : Int) : Int) := of_decide_eq_true z31_1; first | exact h_ | (have e_ := (Kd.R_reads' HO_0.out).1; omega) | simpa using h_) (seg := [.bool ((Int.tmod x1_1 3) == 0)]) (j := 0) hcl14 hcc14 (show 1 ≤ 6 from by decide) (x' := (⟨((Int.tmod x1_1 3) == 0), (rd_T86 x0_1 x5_1).f1, (rd_T86 x0_1 x5_1).f2, (rd_T86 x0_1 x5_1).f3, (⟨(rd_T86 x0_1 x5_1).f4.f0, (rd_T86 x0_1 x5_1).f4.f1⟩ : S38)⟩ : S86)) (k86_mkM _ _ _ (⟨((Int.tmod x1_1 3) == 0), (rd_T86 x0_1 x5_1).f1, (rd_T86 x0_1 x5_1).f2, (rd_T86 x0_1 x5_1).f3, (⟨(rd_T86 x0_1 x5_1).f4.f0, (rd_T86 x0_1 x5_1).f4.f1⟩ : S38)⟩ : S86) ) (fun _ hk => hk)
   have hx14_0 := hcc14 0 _ rfl
   (try simp only [show (k86).sz = 6 from rfl, Nat.mul_one, Nat.add_zero] at hx14_0)
   have hf14_0 := hfr14 0
   (try simp only [show (k86).sz = 6 from rfl, Nat.mul_one, Nat.add_zero] at hf14_0)
   clear hcl14 hcc14 hfr14 hM14
   go_wp2_with (first | ((with_reducible refine gate_store (t := 4) (p := 18) rfl ?_); refine store_event (t := 4) (p := 18) (v := ?vo_w15) (w1 := (wr.setCell ⟨go5, (x5_1 : Int).toNat * 6, none⟩ (.bool ((Int.tmod x1_1 3) == 0)))) ?hg ?ho ?hn ?hr ?_; (case ho => rfl); (case hg => rfl); (case hn => rfl); (case hr => first | (go_simp; done) | (go_simp; rfl)); intro w15 hw; have hg : wr.grownBy w15 (some go5) := (by rw [hw]; exact HP14.2); have hp_ : Kd.R k86 86 w15 w0.heap.size (fun k_ => (P0_ k_ ∨ w.heap.size ≤ k_)) (.slice (some ⟨go5, 0, none⟩) x0_1.length co13) y882 := (by rw [hw, Ny882.out]; exact HP14.1); clear HP14; replace HB := Aside0.mk ((by rw [hw]; exact below_set (HB.out) GB5.out : Below w0.heap.size w0 w15)); replace HK := Aside0.mk (Kept.of_grown (S := (fun k_ => P0_ k_)) hg z31_4 (fun k_ e_ => (HO_0.out.1 k_ e_))); replace HO_0 := Aside0.mk (hp_); clear hg hw hp_) | ((with_reducible refine gate_callee (f := 89) rfl ?_); refine goesL_ (some 24) rfl rfl Try.func89 z31_13 rfl #[.int .i64 (wrap64 (x1_1 + 1))] rfl z31_7 ?_; (with_reducible refine (laws_markText.calls k1 (wrap64 (x1_1 + 1)) t883 _ A6.out).mono ?_); rintro e w16 ⟨rfl, hb⟩; refine ⟨_, rfl, ?_⟩; replace HO_0 := Aside0.mk (Kd.R_below z31_6 hb); replace HK := Aside0.mk (Kept.below (S := (fun k_ => P0_ k_)) z31_4 hb); replace HB := Aside0.mk (below_step z31_0 hb); have HX17 := Aside0.mk (show Kd.R k86 86 w16 w0.heap.size (fun k_ => (P0_ k_ ∨ w.heap.size ≤ k_)) (.slice (some ⟨go5, 0, none⟩) x0_1.length co13) y882 from z31_6); obtain ⟨ce17, hcl17, hM17, hcc17, hfr17⟩ := Kd.R_elem HX17.out z86 (x5_1 : Int) (of_decide_eq_true z31_1) (by have h_ : (x5_1 : Int) < ((x0_1.length : Int) : Int) := of_decide_eq_true z31_1; first | exact h_ | (have e_ := (Kd.R_reads' HO_0.out).1; omega) | simpa using h_); obtain rfl := k86_openM hM17; have HP17 := Kd.R_seg HX17.out (x5_1 : Int) (of_decide_eq_true z31_1) (by have h_ : (x5_1 : Int) < ((x0_1.length : Int) : Int) := of_decide_eq_true z31_1; first | exact h_ | (have e_ := (Kd.R_reads' HO_0.out).1; omega) | simpa using h_) (seg := [.string t883]) (j := 1) hcl17 hcc17 (show 2 ≤ 6 from by decide) (x' := (⟨(rd_T86 y882 x5_1).f0, t883, (rd_T86 y882 x5_1).f2, (rd_T86 y882 x5_1).f3, (⟨(rd_T86 y882 x5_1).f4.f0, (rd_T86 y882 x5_1).f4.f1⟩ : S38)⟩ : S86)) (k86_mkM _ _ _ (⟨(rd_T86 y882 x5_1).f0, t883, (rd_T86 y882 x5_1).f2, (rd_T86 y882 x5_1).f3, (⟨(rd_T86 y882 x5_1).f4.f0, (rd_T86 y882 x5_1).f4.f1⟩ : S38)⟩ : S86) ) (fun _ hk => hk); have hx17_1 := hcc17 1 _ rfl; (try simp only [show (k86).sz = 6 from rfl, Nat.mul_one, Nat.add_zero] at hx17_1); have hf17_1 := hfr17 1; (try simp only [show (k86).sz = 6 from rfl, Nat.mul_one, Nat.add_zero] at hf17_1); clear hcl17 hcc17 hfr17 hM17) | ((with_reducible refine gate_store (t := 9) (p := 26) rfl ?_); refine store_event (t := 9) (p := 26) (v := ?vo_w18) (w1 := (w16.setCell ⟨go5, (x5_1 : Int).toNat * 6 + 1, none⟩ (.string t883))) ?hg ?ho ?hn ?hr ?_; (case ho => rfl); (case hg => rfl); (case hn => rfl); (case hr => first | (go_simp; done) | (go_simp; rfl)); intro w18 hw; have hg : w16.grownBy w18 (some go5) := (by rw [hw]; exact HP17.2); have hp_ : Kd.R k86 86 w18 w0.heap.size (fun k_ => (P0_ k_ ∨ w.heap.size ≤ k_)) (.slice (some ⟨go5, 0, none⟩) x0_1.length co13) y884 := (by rw [hw, Ny884.out]; exact HP17.1); clear HP17; replace HB := Aside0.mk ((by rw [hw]; exact below_set (HB.out) GB5.out : Below w0.heap.size w0 w18)); replace HK := Aside0.mk (Kept.of_grown (S := (fun k_ => P0_ k_)) hg z31_4 (fun k_ e_ => (HO_0.out.1 k_ e_))); replace HO_0 := Aside0.mk (hp_); clear hg hw hp_) | ((with_reducible refine gate_callee (f := 89) rfl ?_); refine goesL_ (some 32) rfl rfl Try.func89 z31_13 rfl #[.int .i64 (wrap64 ((wrap64 (x1_1 + 1)) + 1))] rfl z31_7 ?_; (with_reducible refine (laws_markText.calls k1 (wrap64 ((wrap64 (x1_1 + 1)) + 1)) t885 _ A8.out).mono ?_); rintro e w19 ⟨rfl, hb⟩; refine ⟨_, rfl, ?_⟩; replace HO_0 := Aside0.mk (Kd.R_below z31_6 hb); replace HK := Aside0.mk (Kept.below (S := (fun k_ => P0_ k_)) z31_4 hb); replace HB := Aside0.mk (below_step z31_0 hb); have HX20 := Aside0.mk (show Kd.R k86 86 w19 w0.heap.size (fun k_ => (P0_ k_ ∨ w.heap.size ≤ k_)) (.slice (some ⟨go5, 0, none⟩) x0_1.length co13) y884 from z31_6); obtain ⟨ce20, hcl20, hM20, hcc20, hfr20⟩ := Kd.R_elem HX20.out z86 (x5_1 : Int) (of_decide_eq_true z31_1) (by have h_ : (x5_1 : Int) < ((x0_1.length : Int) : Int) := of_decide_eq_true z31_1; first | exact h_ | (have e_ := (Kd.R_reads' HO_0.out).1; omega) | simpa using h_); obtain rfl := k86_openM hM20; have HP20 := Kd.R_seg HX20.out (x5_1 : Int) (of_decide_eq_true z31_1) (by have h_ : (x5_1 : Int) < ((x0_1.length : Int) : Int) := of_decide_eq_true z31_1; first | exact h_ | (have e_ := (Kd.R_reads' HO_0.out).1; omega) | simpa using h_) (seg := [.string t885]) (j := 2) hcl20 hcc20 (show 3 ≤ 6 from by decide) (x' := (⟨(rd_T86 y884 x5_1).f0, (rd_T86 y884 x5_1).f1, t885, (rd_T86 y884 x5_1).f3, (⟨(rd_T86 y884 x5_1).f4.f0, (rd_T86 y884 x5_1).f4.f1⟩ : S38)⟩ : S86)) (k86_mkM _ _ _ (⟨(rd_T86 y884 x5_1).f0, (rd_T86 y884 x5_1).f1, t885, (rd_T86 y884 x5_1).f3, (⟨(rd_T86 y884 x5_1).f4.f0, (rd_T86 y884 x5_1).f4.f1⟩ : S38)⟩ : S86) ) (fun _ hk => hk); have hx20_2 := hcc20 2 _ rfl; (try simp only [show (k86).sz = 6 from rfl, Nat.mul_one, Nat.add_zero] at hx20_2); have hf20_2 := hfr20 2; (try simp only [show (k86).sz = 6 from rfl, Nat.mul_one, Nat.add_zero] at hf20_2); clear hcl20 hcc20 hfr20 hM20) | ((with_reducible refine gate_store (t := 9) (p := 34) rfl ?_); refine store_event (t := 9) (p := 34) (v := ?vo_w21) (w1 := (w19.setCell ⟨go5, (x5_1 : Int).toNat * 6 + 2, none⟩ (.string t885))) ?hg ?ho ?hn ?hr ?_; (case ho => rfl); (case hg => rfl); (case hn => rfl); (case hr => first | (go_simp; done) | (go_simp; rfl)); intro w21 hw; have hg : w19.grownBy w21 (some go5) := (by rw [hw]; exact HP20.2); have hp_ : Kd.R k86 86 w21 w0.heap.size (fun k_ => (P0_ k_ ∨ w.heap.size ≤ k_)) (.slice (some ⟨go5, 0, none⟩) x0_1.length co13) y886 := (by rw [hw, Ny886.out]; exact HP20.1); clear HP20; replace HB := Aside0.mk ((by rw [hw]; exact below_set (HB.out) GB5.out : Below w0.heap.size w0 w21)); replace HK := Aside0.mk (Kept.of_grown (S := (fun k_ => P0_ k_)) hg z31_4 (fun k_ e_ => (HO_0.out.1 k_ e_))); replace HO_0 := Aside0.mk (hp_); clear hg hw hp_; have HX22 := Aside0.mk (show Kd.R k86 86 w21 w0.heap.size (fun k_ => (P0_ k_ ∨ w.heap.size ≤ k_)) (.slice (some ⟨go5, 0, none⟩) x0_1.length co13) y886 from z31_6); obtain ⟨ce22, hcl22, hM22, hcc22, hfr22⟩ := Kd.R_elem HX22.out z86 (x5_1 : Int) (of_decide_eq_true z31_1) (by have h_ : (x5_1 : Int) < ((x0_1.length : Int) : Int) := of_decide_eq_true z31_1; first | exact h_ | (have e_ := (Kd.R_reads' HO_0.out).1; omega) | simpa using h_); obtain rfl := k86_openM hM22; have HP22 := Kd.R_seg HX22.out (x5_1 : Int) (of_decide_eq_true z31_1) (by have h_ : (x5_1 : Int) < ((x0_1.length : Int) : Int) := of_decide_eq_true z31_1; first | exact h_ | (have e_ := (Kd.R_reads' HO_0.out).1; omega) | simpa using h_) (seg := [.int .i64 (wrap64 ((wrap64 ((wrap64 (x1_1 + 1)) + 1)) + 1))]) (j := 3) hcl22 hcc22 (show 4 ≤ 6 from by decide) (x' := (⟨(rd_T86 y886 x5_1).f0, (rd_T86 y886 x5_1).f1, (rd_T86 y886 x5_1).f2, wrap64 ((wrap64 ((wrap64 (x1_1 + 1)) + 1)) + 1), (⟨(rd_T86 y886 x5_1).f4.f0, (rd_T86 y886 x5_1).f4.f1⟩ : S38)⟩ : S86)) (k86_mkM _ _ _ (⟨(rd_T86 y886 x5_1).f0, (rd_T86 y886 x5_1).f1, (rd_T86 y886 x5_1).f2, wrap64 ((wrap64 ((wrap64 (x1_1 + 1)) + 1)) + 1), (⟨(rd_T86 y886 x5_1).f4.f0, (rd_T86 y886 x5_1).f4.f1⟩ : S38)⟩ : S86) ) (fun _ hk => hk); have hx22_3 := hcc22 3 _ rfl; (try simp only [show (k86).sz = 6 from rfl, Nat.mul_one, Nat.add_zero] at hx22_3); have hf22_3 := hfr22 3; (try simp only [show (k86).sz = 6 from rfl, Nat.mul_one, Nat.add_zero] at hf22_3); clear hcl22 hcc22 hfr22 hM22) | ((with_reducible refine gate_store (t := 3) (p := 41) rfl ?_); refine store_event (t := 3) (p := 41) (v := ?vo_w23) (w1 := (w21.setCell ⟨go5, (x5_1 : Int).toNat * 6 + 3, none⟩ (.int .i64 (wrap64 ((wrap64 ((wrap64 (x1_1 + 1)) + 1)) + 1))))) ?hg ?ho ?hn ?hr ?_; (case ho => rfl); (case hg => rfl); (case hn => rfl); (case hr => first | (go_simp; done) | (go_simp; rfl)); intro w23 hw; have hg : w21.grownBy w23 (some go5) := (by rw [hw]; exact HP22.2); have hp_ : Kd.R k86 86 w23 w0.heap.size (fun k_ => (P0_ k_ ∨ w.heap.size ≤ k_)) (.slice (some ⟨go5, 0, none⟩) x0_1.length co13) y887 := (by rw [hw, Ny887.out]; exact HP22.1); clear HP22; replace HB := Aside0.mk ((by rw [hw]; exact below_set (HB.out) GB5.out : Below w0.heap.size w0 w23)); replace HK := Aside0.mk (Kept.of_grown (S := (fun k_ => P0_ k_)) hg z31_4 (fun k_ e_ => (HO_0.out.1 k_ e_))); replace HO_0 := Aside0.mk (hp_); clear hg hw hp_; have HX24 := Aside0.mk (show Kd.R k86 86 w23 w0.heap.size (fun k_ => (P0_ k_ ∨ w.heap.size ≤ k_)) (.slice (some ⟨go5, 0, none⟩) x0_1.length co13) y887 from z31_6); obtain ⟨ce24, hcl24, hM24, hcc24, hfr24⟩ := Kd.R_elem HX24.out z86 (x5_1 : Int) (of_decide_eq_true z31_1) (by have h_ : (x5_1 : Int) < ((x0_1.length : Int) : Int) := of_decide_eq_true z31_1; first | exact h_ | (have e_ := (Kd.R_reads' HO_0.out).1; omega) | simpa using h_); obtain rfl := k86_openM hM24; have HP24 := Kd.R_seg HX24.out (x5_1 : Int) (of_decide_eq_true z31_1) (by have h_ : (x5_1 : Int) < ((x0_1.length : Int) : Int) := of_decide_eq_true z31_1; first | exact h_ | (have e_ := (Kd.R_reads' HO_0.out).1; omega) | simpa using h_) (seg := [.int .i64 (wrap64 ((wrap64 ((wrap64 ((wrap64 (x1_1 + 1)) + 1)) + 1)) + 1))]) (j := 4) hcl24 hcc24 (show 5 ≤ 6 from by decide) (x' := (⟨(rd_T86 y887 x5_1).f0, (rd_T86 y887 x5_1).f1, (rd_T86 y887 x5_1).f2, (rd_T86 y887 x5_1).f3, (⟨wrap64 ((wrap64 ((wrap64 ((wrap64 (x1_1 + 1)) + 1)) + 1)) + 1), (rd_T86 y887 x5_1).f4.f1⟩ : S38)⟩ : S86)) (k86_mkM _ _ _ (⟨(rd_T86 y887 x5_1).f0, (rd_T86 y887 x5_1).f1, (rd_T86 y887 x5_1).f2, (rd_T86 y887 x5_1).f3, (⟨wrap64 ((wrap64 ((wrap64 ((wrap64 (x1_1 + 1)) + 1)) + 1)) + 1), (rd_T86 y887 x5_1).f4.f1⟩ : S38)⟩ : S86) ) (fun _ hk => hk); have hx24_4 := hcc24 4 _ rfl; (try simp only [show (k86).sz = 6 from rfl, Nat.mul_one, Nat.add_zero] at hx24_4); have hf24_4 := hfr24 4; (try simp only [show (k86).sz = 6 from rfl, Nat.mul_one, Nat.add_zero] at hf24_4); clear hcl24 hcc24 hfr24 hM24) | ((with_reducible refine gate_store (t := 3) (p := 49) rfl ?_); refine store_event (t := 3) (p := 49) (v := ?vo_w25) (w1 := (w23.setCell ⟨go5, (x5_1 : Int).toNat * 6 + 4, none⟩ (.int .i64 (wrap64 ((wrap64 ((wrap64 ((wrap64 (x1_1 + 1)) + 1)) + 1)) + 1))))) ?hg ?ho ?hn ?hr ?_; (case ho => rfl); (case hg => rfl); (case hn => rfl); (case hr => first | (go_simp; done) | (go_simp; rfl)); intro w25 hw; have hg : w23.grownBy w25 (some go5) := (by rw [hw]; exact HP24.2); have hp_ : Kd.R k86 86 w25 w0.heap.size (fun k_ => (P0_ k_ ∨ w.heap.size ≤ k_)) (.slice (some ⟨go5, 0, none⟩) x0_1.length co13) y888 := (by rw [hw, Ny888.out]; exact HP24.1); clear HP24; replace HB := Aside0.mk ((by rw [hw]; exact below_set (HB.out) GB5.out : Below w0.heap.size w0 w25)); replace HK := Aside0.mk (Kept.of_grown (S := (fun k_ => P0_ k_)) hg z31_4 (fun k_ e_ => (HO_0.out.1 k_ e_))); replace HO_0 := Aside0.mk (hp_); clear hg hw hp_; have HX26 := Aside0.mk (show Kd.R k86 86 w25 w0.heap.size (fun k_ => (P0_ k_ ∨ w.heap.size ≤ k_)) (.slice (some ⟨go5, 0, none⟩) x0_1.length co13) y888 from z31_6); obtain ⟨ce26, hcl26, hM26, hcc26, hfr26⟩ := Kd.R_elem HX26.out z86 (x5_1 : Int) (of_decide_eq_true z31_1) (by have h_ : (x5_1 : Int) < ((x0_1.length : Int) : Int) := of_decide_eq_true z31_1; first | exact h_ | (have e_ := (Kd.R_reads' HO_0.out).1; omega) | simpa using h_); obtain rfl := k86_openM hM26; have HP26 := Kd.R_seg HX26.out (x5_1 : Int) (of_decide_eq_true z31_1) (by have h_ : (x5_1 : Int) < ((x0_1.length : Int) : Int) := of_decide_eq_true z31_1; first | exact h_ | (have e_ := (Kd.R_reads' HO_0.out).1; omega) | simpa using h_) (seg := [.int .i64 (wrap64 ((wrap64 ((wrap64 ((wrap64 ((wrap64 (x1_1 + 1)) + 1)) + 1)) + 1)) + 1))]) (j := 5) hcl26 hcc26 (show 6 ≤ 6 from by decide) (x' := (⟨(rd_T86 y888 x5_1).f0, (rd_T86 y888 x5_1).f1, (rd_T86 y888 x5_1).f2, (rd_T86 y888 x5_1).f3, (⟨(rd_T86 y888 x5_1).f4.f0, wrap64 ((wrap64 ((wrap64 ((wrap64 ((wrap64 (x1_1 + 1)) + 1)) + 1)) + 1)) + 1)⟩ : S38)⟩ : S86)) (k86_mkM _ _ _ (⟨(rd_T86 y888 x5_1).f0, (rd_T86 y888 x5_1).f1, (rd_T86 y888 x5_1).f2, (rd_T86 y888 x5_1).f3, (⟨(rd_T86 y888 x5_1).f4.f0, wrap64 ((wrap64 ((wrap64 ((wrap64 ((wrap64 (x1_1 + 1)) + 1)) + 1)) + 1)) + 1)⟩ : S38)⟩ : S86) ) (fun _ hk => hk); have hx26_5 := hcc26 5 _ rfl; (try simp only [show (k86).sz = 6 from rfl, Nat.mul_one, Nat.add_zero] at hx26_5); have hf26_5 := hfr26 5; (try simp only [show (k86).sz = 6 from rfl, Nat.mul_one, Nat.add_zero] at hf26_5); clear hcl26 hcc26 hfr26 hM26) | ((with_reducible refine gate_store (t := 3) (p := 57) rfl ?_); refine store_event (t := 3) (p := 57) (v := ?vo_w27) (w1 := (w25.setCell ⟨go5, (x5_1 : Int).toNat * 6 + 5, none⟩ (.int .i64 (wrap64 ((wrap64 ((wrap64 ((wrap64 ((wrap64 (x1_1 + 1)) + 1)) + 1)) + 1)) + 1))))) ?hg ?ho ?hn ?hr ?_; (case ho => rfl); (case hg => rfl); (case hn => rfl); (case hr => first | (go_simp; done) | (go_simp; rfl)); intro w27 hw; have hg : w25.grownBy w27 (some go5) := (by rw [hw]; exact HP26.2); have hp_ : Kd.R k86 86 w27 w0.heap.size (fun k_ => (P0_ k_ ∨ w.heap.size ≤ k_)) (.slice (some ⟨go5, 0, none⟩) x0_1.length co13) y889 := (by rw [hw, Ny889.out]; exact HP26.1); clear HP26; replace HB := Aside0.mk ((by rw [hw]; exact below_set (HB.out) GB5.out : Below w0.heap.size w0 w27)); replace HK := Aside0.mk (Kept.of_grown (S := (fun k_ => P0_ k_)) hg z31_4 (fun k_ e_ => (HO_0.out.1 k_ e_))); replace HO_0 := Aside0.mk (hp_); clear hg hw hp_))
   go_roundg k1
   case measure => have := HK1.out; omega
   case rel => exact ⟨(y889), (wrap64 ((wrap64 ((wrap64 ((wrap64 ((wrap64 ((wrap64 (x1_1 + 1)) + 1)) + 1)) + 1)) + 1)) + 1)), (wrap64 (x5_1 + 1)), z31_10, z31_10, H', ⟨by have := HK1.out; omega⟩, ⟨z31_6⟩, ⟨z31_4⟩, ⟨z31_0⟩⟩
def laws_markCellS.l0 : Nat → List (S73) → Int → Int → Option (Int × (List (S73)))
  | 0, _, _, _ => none
  | k + 1, x0, x1, x5 => if x5 < (x0.length : Int) then ((laws_markText.f k x1).bind fun t890 => (if 0 ≤ x5 then ((some (x0.set (x5 : Int).toNat (⟨t890, (⟨(rd_T73 x0 x5).f1.f0, (rd_T73 x0 x5).f1.f1⟩ : S38), (rd_T73 x0 x5).f2, (⟨(rd_T73 x0 x5).f3.f0, (rd_T73 x0 x5).f3.f1⟩ : S38), (rd_T73 x0 x5).f4, (rd_T73 x0 x5).f5⟩ : S73) : List (S73))).bind fun y891 => ((some (y891.set (x5 : Int).toNat (⟨(rd_T73 y891 x5).f0, (⟨wrap64 (x1 + 1), (rd_T73 y891 x5).f1.f1⟩ : S38), (rd_T73 y891 x5).f2, (⟨(rd_T73 y891 x5).f3.f0, (rd_T73 y891 x5).f3.f1⟩ : S38), (rd_T73 y891 x5).f4, (rd_T73 y891 x5).f5⟩ : S73) : List (S73))).bind fun y892 => ((some (y892.set (x5 : Int).toNat (⟨(rd_T73 y892 x5).f0, (⟨(rd_T73 y892 x5).f1.f0, wrap64 ((wrap64 (x1 + 1)) + 1)⟩ : S38), (rd_T73 y892 x5).f2, (⟨(rd_T73 y892 x5).f3.f0, (rd_T73 y892 x5).f3.f1⟩ : S38), (rd_T73 y892 x5).f4, (rd_T73 y892 x5).f5⟩ : S73) : List (S73))).bind fun y893 => ((some (y893.set (x5 : Int).toNat (⟨(rd_T73 y893 x5).f0, (⟨(rd_T73 y893 x5).f1.f0, (rd_T73 y893 x5).f1.f1⟩ : S38), wrap64 ((wrap64 ((wrap64 (x1 + 1)) + 1)) + 1), (⟨(rd_T73 y893 x5).f3.f0, (rd_T73 y893 x5).f3.f1⟩ : S38), (rd_T73 y893 x5).f4, (rd_T73 y893 x5).f5⟩ : S73) : List (S73))).bind fun y894 => ((some (y894.set (x5 : Int).toNat (⟨(rd_T73 y894 x5).f0, (⟨(rd_T73 y894 x5).f1.f0, (rd_T73 y894 x5).f1.f1⟩ : S38), (rd_T73 y894 x5).f2, (⟨wrap64 ((wrap64 ((wrap64 ((wrap64 (x1 + 1)) + 1)) + 1)) + 1), (rd_T73 y894 x5).f3.f1⟩ : S38), (rd_T73 y894 x5).f4, (rd_T73 y894 x5).f5⟩ : S73) : List (S73))).bind fun y895 => ((some (y895.set (x5 : Int).toNat (⟨(rd_T73 y895 x5).f0, (⟨(rd_T73 y895 x5).f1.f0, (rd_T73 y895 x5).f1.f1⟩ : S38), (rd_T73 y895 x5).f2, (⟨(rd_T73 y895 x5).f3.f0, wrap64 ((wrap64 ((wrap64 ((wrap64 ((wrap64 (x1 + 1)) + 1)) + 1)) + 1)) + 1)⟩ : S38), (rd_T73 y895 x5).f4, (rd_T73 y895 x5).f5⟩ : S73) : List (S73))).bind fun y896 => ((some (y896.set (x5 : Int).toNat (⟨(rd_T73 y896 x5).f0, (⟨(rd_T73 y896 x5).f1.f0, (rd_T73 y896 x5).f1.f1⟩ : S38), (rd_T73 y896 x5).f2, (⟨(rd_T73 y896 x5).f3.f0, (rd_T73 y896 x5).f3.f1⟩ : S38), wrap64 ((wrap64 ((wrap64 ((wrap64 ((wrap64 ((wrap64 (x1 + 1)) + 1)) + 1)) + 1)) + 1)) + 1), (rd_T73 y896 x5).f5⟩ : S73) : List (S73))).bind fun y897 => (laws_markCellS.l0 k (y897.set (x5 : Int).toNat (⟨(rd_T73 y897 x5).f0, (⟨(rd_T73 y897 x5).f1.f0, (rd_T73 y897 x5).f1.f1⟩ : S38), (rd_T73 y897 x5).f2, (⟨(rd_T73 y897 x5).f3.f0, (rd_T73 y897 x5).f3.f1⟩ : S38), (rd_T73 y897 x5).f4, ((Int.tmod (wrap64 ((wrap64 ((wrap64 ((wrap64 ((wrap64 ((wrap64 ((wrap64 (x1 + 1)) + 1)) + 1)) + 1)) + 1)) + 1)) + 1)) 3) == 0)⟩ : S73)) (wrap64 ((wrap64 ((wrap64 ((wrap64 ((wrap64 ((wrap64 ((wrap64 ((wrap64 (x1 + 1)) + 1)) + 1)) + 1)) + 1)) + 1)) + 1)) + 1)) (wrap64 (x5 + 1)))))))))) else (none))) else (some (x1, x0))
def laws_markCellS.f (k : Nat) (l0 : List (S73)) (a1 : Int) : Option (Int × (List (S73))) := laws_markCellS.l0 k l0 a1 0
set_option maxHeartbeats 8000000 in
set_option maxRecDepth 100000 in
theorem laws_markCellS.calls (k : Nat) (P0_ : Nat → Prop) (u9000_ : Value) (l0 : List (S73)) (a1 : Int) (r1 : Int) (r2 : List (S73)) (w0 w : World) (hB : Below w0.heap.size w0 w) (ho0 : Kd.R k73 73 w w0.heap.size P0_ u9000_ l0) (h : laws_markCellS.f k l0 a1 = some (r1, r2)) :
  Calls Try.prog 83 #[u9000_, .int .i64 a1] w fun e w' => e = .returned (.int .i64 r1) ∧ Kd.R k73 73 w' w0.heap.size (fun k_ => (P0_ k_ ∨ w.heap.size ≤ k_)) u9000_ r2 ∧ Below w0.heap.size w0 w' ∧ Kept w w' (fun k_ => P0_ k_) := by
 have HO0 := Aside0.mk (show Kd.R k73 73 w w0.heap.size (fun k_ => (P0_ k_ ∨ w.heap.size ≤ k_)) u9000_ l0 from Kd.R_mono ho0 (fun k_ hk => (.inl hk)))
 have HK := Aside0.mk (Kept.refl w (fun k_ => P0_ k_))
 have HW0 := Aside0.mk hB.size
 have HB := Aside0.mk hB
 clear hB
 have H : (laws_markCellS.l0 k l0 a1 0) = some (r1, r2) := h
 clear h
 have H' := Aside0.mk H
 clear H
 go_enter Try.func83, Try.ntmps83
 go_wp2
 go_loopg [1, 5] k (fun kq v1 v5 w' => ∃ (x0_1 : List (S73)) (x1_1 : Int) (x5_1 : Int), v1 = .int .i64 x1_1 ∧ v5 = .int .i64 x5_1 ∧ Aside0 (laws_markCellS.l0 kq x0_1 x1_1 x5_1 = some (r1, r2)) ∧ Aside0 (kq ≤ k) ∧ Aside0 (Kd.R k73 73 w' w0.heap.size (fun k_ => (P0_ k_ ∨ w.heap.size ≤ k_)) u9000_ x0_1) ∧ Aside0 (Kept w w' (fun k_ => P0_ k_)) ∧ Aside0 (Below w0.heap.size w0 w'))
 case atStart => exact ⟨(l0), (a1), (0), z31_10, z31_10, H', ⟨Nat.le_refl _⟩, ⟨z31_12⟩, ⟨z31_4⟩, ⟨z31_0⟩⟩
 case round =>
  clear H'
  try clear p2
  obtain ⟨x0_1, x1_1, x5_1, rfl, rfl, HA, HK1, HO_0, HK, HB⟩ := hrel
  cases gk with
  | zero => exact absurd HA.out (by simp [laws_markCellS.l0])
  | succ k1 =>
   have H := HA.out
   clear HA
   simp only [laws_markCellS.l0] at H
   by_cases c3 : x5_1 < (x0_1.length : Int)
   rotate_left
   ·
    rw [if_neg c3] at H
    have c3b0 : decide (x5_1 < (x0_1.length : Int)) = false := decide_eq_false c3
    clear c3
    simp only [Option.some.injEq, Prod.mk.injEq] at H
    obtain ⟨rfl, rfl⟩ := H
    obtain ⟨Ao32, co32, eo32⟩ := Kd.R_slice HO_0.out
    subst eo32
    go_wp2
    go_ret
    exact ⟨z31_8, z31_6, z31_0, z31_4⟩
   rw [if_pos c3] at H
   have c3b0 : decide (x5_1 < (x0_1.length : Int)) = true := decide_eq_true c3
   clear c3
   replace H := Option.bind_eq_some_iff.mp H
   obtain ⟨t890, A40, H⟩ := H
   (try dsimp only at H)
   have A4 := Aside0.mk A40
   clear A40
   by_cases c5 : 0 ≤ x5_1
   rotate_left
   ·
    rw [if_neg c5] at H
    exact absurd H (by simp)
   rw [if_pos c5] at H
   have c5b0 : decide (0 ≤ x5_1) = true := decide_eq_true c5
   clear c5
   obtain ⟨y891, hy891⟩ : ∃ y_ : List (S73), y_ = (x0_1.set (x5_1 : Int).toNat (⟨t890, (⟨(rd_T73 x0_1 x5_1).f1.f0, (rd_T73 x0_1 x5_1).f1.f1⟩ : S38), (rd_T73 x0_1 x5_1).f2, (⟨(rd_T73 x0_1 x5_1).f3.f0, (rd_T73 x0_1 x5_1).f3.f1⟩ : S38), (rd_T73 x0_1 x5_1).f4, (rd_T73 x0_1 x5_1).f5⟩ : S73)) := ⟨_, rfl⟩
   replace H : ((some (y891.set (x5_1 : Int).toNat (⟨(rd_T73 y891 x5_1).f0, (⟨wrap64 (x1_1 + 1), (rd_T73 y891 x5_1).f1.f1⟩ : S38), (rd_T73 y891 x5_1).f2, (⟨(rd_T73 y891 x5_1).f3.f0, (rd_T73 y891 x5_1).f3.f1⟩ : S38), (rd_T73 y891 x5_1).f4, (rd_T73 y891 x5_1).f5⟩ : S73) : List (S73))).bind fun y892 => ((some (y892.set (x5_1 : Int).toNat (⟨(rd_T73 y892 x5_1).f0, (⟨(rd_T73 y892 x5_1).f1.f0, wrap64 ((wrap64 (x1_1 + 1)) + 1)⟩ : S38), (rd_T73 y892 x5_1).f2, (⟨(rd_T73 y892 x5_1).f3.f0, (rd_T73 y892 x5_1).f3.f1⟩ : S38), (rd_T73 y892 x5_1).f4, (rd_T73 y892 x5_1).f5⟩ : S73) : List (S73))).bind fun y893 => ((some (y893.set (x5_1 : Int).toNat (⟨(rd_T73 y893 x5_1).f0, (⟨(rd_T73 y893 x5_1).f1.f0, (rd_T73 y893 x5_1).f1.f1⟩ : S38), wrap64 ((wrap64 ((wrap64 (x1_1 + 1)) + 1)) + 1), (⟨(rd_T73 y893 x5_1).f3.f0, (rd_T73 y893 x5_1).f3.f1⟩ : S38), (rd_T73 y893 x5_1).f4, (rd_T73 y893 x5_1).f5⟩ : S73) : List (S73))).bind fun y894 => ((some (y894.set (x5_1 : Int).toNat (⟨(rd_T73 y894 x5_1).f0, (⟨(rd_T73 y894 x5_1).f1.f0, (rd_T73 y894 x5_1).f1.f1⟩ : S38), (rd_T73 y894 x5_1).f2, (⟨wrap64 ((wrap64 ((wrap64 ((wrap64 (x1_1 + 1)) + 1)) + 1)) + 1), (rd_T73 y894 x5_1).f3.f1⟩ : S38), (rd_T73 y894 x5_1).f4, (rd_T73 y894 x5_1).f5⟩ : S73) : List (S73))).bind fun y895 => ((some (y895.set (x5_1 : Int).toNat (⟨(rd_T73 y895 x5_1).f0, (⟨(rd_T73 y895 x5_1).f1.f0, (rd_T73 y895 x5_1).f1.f1⟩ : S38), (rd_T73 y895 x5_1).f2, (⟨(rd_T73 y895 x5_1).f3.f0, wrap64 ((wrap64 ((wrap64 ((wrap64 ((wrap64 (x1_1 + 1)) + 1)) + 1)) + 1)) + 1)⟩ : S38), (rd_T73 y895 x5_1).f4, (rd_T73 y895 x5_1).f5⟩ : S73) : List (S73))).bind fun y896 => ((some (y896.set (x5_1 : Int).toNat (⟨(rd_T73 y896 x5_1).f0, (⟨(rd_T73 y896 x5_1).f1.f0, (rd_T73 y896 x5_1).f1.f1⟩ : S38), (rd_T73 y896 x5_1).f2, (⟨(rd_T73 y896 x5_1).f3.f0, (rd_T73 y896 x5_1).f3.f1⟩ : S38), wrap64 ((wrap64 ((wrap64 ((wrap64 ((wrap64 ((wrap64 (x1_1 + 1)) + 1)) + 1)) + 1)) + 1)) + 1), (rd_T73 y896 x5_1).f5⟩ : S73) : List (S73))).bind fun y897 => (laws_markCellS.l0 k1 (y897.set (x5_1 : Int).toNat (⟨(rd_T73 y897 x5_1).f0, (⟨(rd_T73 y897 x5_1).f1.f0, (rd_T73 y897 x5_1).f1.f1⟩ : S38), (rd_T73 y897 x5_1).f2, (⟨(rd_T73 y897 x5_1).f3.f0, (rd_T73 y897 x5_1).f3.f1⟩ : S38), (rd_T73 y897 x5_1).f4, ((Int.tmod (wrap64 ((wrap64 ((wrap64 ((wrap64 ((wrap64 ((wrap64 ((wrap64 (x1_1 + 1)) + 1)) + 1)) + 1)) + 1)) + 1)) + 1)) 3) == 0)⟩ : S73)) (wrap64 ((wrap64 ((wrap64 ((wrap64 ((wrap64 ((wrap64 ((wrap64 ((wrap64 (x1_1 + 1)) + 1)) + 1)) + 1)) + 1)) + 1)) + 1)) + 1)) (wrap64 (x5_1 + 1))))))))) = some (r1, r2) := by first | (rw [hy891]; with_reducible exact H) | (have H2_ := (Option.bind_some _ _).symm.trans H; rw [hy891]; with_reducible exact H2_) | (have H2_ := (Option.bind_some _ _).symm.trans H; with_reducible exact H2_) | with_reducible exact H | (rw [hy891]; exact H) | exact H
   have Ny891 := Aside0.mk hy891
   clear hy891
   obtain ⟨y892, hy892⟩ : ∃ y_ : List (S73), y_ = (y891.set (x5_1 : Int).toNat (⟨(rd_T73 y891 x5_1).f0, (⟨wrap64 (x1_1 + 1), (rd_T73 y891 x5_1).f1.f1⟩ : S38), (rd_T73 y891 x5_1).f2, (⟨(rd_T73 y891 x5_1).f3.f0, (rd_T73 y891 x5_1).f3.f1⟩ : S38), (rd_T73 y891 x5_1).f4, (rd_T73 y891 x5_1).f5⟩ : S73)) := ⟨_, rfl⟩
   replace H : ((some (y892.set (x5_1 : Int).toNat (⟨(rd_T73 y892 x5_1).f0, (⟨(rd_T73 y892 x5_1).f1.f0, wrap64 ((wrap64 (x1_1 + 1)) + 1)⟩ : S38), (rd_T73 y892 x5_1).f2, (⟨(rd_T73 y892 x5_1).f3.f0, (rd_T73 y892 x5_1).f3.f1⟩ : S38), (rd_T73 y892 x5_1).f4, (rd_T73 y892 x5_1).f5⟩ : S73) : List (S73))).bind fun y893 => ((some (y893.set (x5_1 : Int).toNat (⟨(rd_T73 y893 x5_1).f0, (⟨(rd_T73 y893 x5_1).f1.f0, (rd_T73 y893 x5_1).f1.f1⟩ : S38), wrap64 ((wrap64 ((wrap64 (x1_1 + 1)) + 1)) + 1), (⟨(rd_T73 y893 x5_1).f3.f0, (rd_T73 y893 x5_1).f3.f1⟩ : S38), (rd_T73 y893 x5_1).f4, (rd_T73 y893 x5_1).f5⟩ : S73) : List (S73))).bind fun y894 => ((some (y894.set (x5_1 : Int).toNat (⟨(rd_T73 y894 x5_1).f0, (⟨(rd_T73 y894 x5_1).f1.f0, (rd_T73 y894 x5_1).f1.f1⟩ : S38), (rd_T73 y894 x5_1).f2, (⟨wrap64 ((wrap64 ((wrap64 ((wrap64 (x1_1 + 1)) + 1)) + 1)) + 1), (rd_T73 y894 x5_1).f3.f1⟩ : S38), (rd_T73 y894 x5_1).f4, (rd_T73 y894 x5_1).f5⟩ : S73) : List (S73))).bind fun y895 => ((some (y895.set (x5_1 : Int).toNat (⟨(rd_T73 y895 x5_1).f0, (⟨(rd_T73 y895 x5_1).f1.f0, (rd_T73 y895 x5_1).f1.f1⟩ : S38), (rd_T73 y895 x5_1).f2, (⟨(rd_T73 y895 x5_1).f3.f0, wrap64 ((wrap64 ((wrap64 ((wrap64 ((wrap64 (x1_1 + 1)) + 1)) + 1)) + 1)) + 1)⟩ : S38), (rd_T73 y895 x5_1).f4, (rd_T73 y895 x5_1).f5⟩ : S73) : List (S73))).bind fun y896 => ((some (y896.set (x5_1 : Int).toNat (⟨(rd_T73 y896 x5_1).f0, (⟨(rd_T73 y896 x5_1).f1.f0, (rd_T73 y896 x5_1).f1.f1⟩ : S38), (rd_T73 y896 x5_1).f2, (⟨(rd_T73 y896 x5_1).f3.f0, (rd_T73 y896 x5_1).f3.f1⟩ : S38), wrap64 ((wrap64 ((wrap64 ((wrap64 ((wrap64 ((wrap64 (x1_1 + 1)) + 1)) + 1)) + 1)) + 1)) + 1), (rd_T73 y896 x5_1).f5⟩ : S73) : List (S73))).bind fun y897 => (laws_markCellS.l0 k1 (y897.set (x5_1 : Int).toNat (⟨(rd_T73 y897 x5_1).f0, (⟨(rd_T73 y897 x5_1).f1.f0, (rd_T73 y897 x5_1).f1.f1⟩ : S38), (rd_T73 y897 x5_1).f2, (⟨(rd_T73 y897 x5_1).f3.f0, (rd_T73 y897 x5_1).f3.f1⟩ : S38), (rd_T73 y897 x5_1).f4, ((Int.tmod (wrap64 ((wrap64 ((wrap64 ((wrap64 ((wrap64 ((wrap64 ((wrap64 (x1_1 + 1)) + 1)) + 1)) + 1)) + 1)) + 1)) + 1)) 3) == 0)⟩ : S73)) (wrap64 ((wrap64 ((wrap64 ((wrap64 ((wrap64 ((wrap64 ((wrap64 ((wrap64 (x1_1 + 1)) + 1)) + 1)) + 1)) + 1)) + 1)) + 1)) + 1)) (wrap64 (x5_1 + 1)))))))) = some (r1, r2) := by first | (rw [hy892]; with_reducible exact H) | (have H2_ := (Option.bind_some _ _).symm.trans H; rw [hy892]; with_reducible exact H2_) | (have H2_ := (Option.bind_some _ _).symm.trans H; with_reducible exact H2_) | with_reducible exact H | (rw [hy892]; exact H) | exact H
   have Ny892 := Aside0.mk hy892
   clear hy892
   obtain ⟨y893, hy893⟩ : ∃ y_ : List (S73), y_ = (y892.set (x5_1 : Int).toNat (⟨(rd_T73 y892 x5_1).f0, (⟨(rd_T73 y892 x5_1).f1.f0, wrap64 ((wrap64 (x1_1 + 1)) + 1)⟩ : S38), (rd_T73 y892 x5_1).f2, (⟨(rd_T73 y892 x5_1).f3.f0, (rd_T73 y892 x5_1).f3.f1⟩ : S38), (rd_T73 y892 x5_1).f4, (rd_T73 y892 x5_1).f5⟩ : S73)) := ⟨_, rfl⟩
   replace H : ((some (y893.set (x5_1 : Int).toNat (⟨(rd_T73 y893 x5_1).f0, (⟨(rd_T73 y893 x5_1).f1.f0, (rd_T73 y893 x5_1).f1.f1⟩ : S38), wrap64 ((wrap64 ((wrap64 (x1_1 + 1)) + 1)) + 1), (⟨(rd_T73 y893 x5_1).f3.f0, (rd_T73 y893 x5_1).f3.f1⟩ : S38), (rd_T73 y893 x5_1).f4, (rd_T73 y893 x5_1).f5⟩ : S73) : List (S73))).bind fun y894 => ((some (y894.set (x5_1 : Int).toNat (⟨(rd_T73 y894 x5_1).f0, (⟨(rd_T73 y894 x5_1).f1.f0, (rd_T73 y894 x5_1).f1.f1⟩ : S38), (rd_T73 y894 x5_1).f2, (⟨wrap64 ((wrap64 ((wrap64 ((wrap64 (x1_1 + 1)) + 1)) + 1)) + 1), (rd_T73 y894 x5_1).f3.f1⟩ : S38), (rd_T73 y894 x5_1).f4, (rd_T73 y894 x5_1).f5⟩ : S73) : List (S73))).bind fun y895 => ((some (y895.set (x5_1 : Int).toNat (⟨(rd_T73 y895 x5_1).f0, (⟨(rd_T73 y895 x5_1).f1.f0, (rd_T73 y895 x5_1).f1.f1⟩ : S38), (rd_T73 y895 x5_1).f2, (⟨(rd_T73 y895 x5_1).f3.f0, wrap64 ((wrap64 ((wrap64 ((wrap64 ((wrap64 (x1_1 + 1)) + 1)) + 1)) + 1)) + 1)⟩ : S38), (rd_T73 y895 x5_1).f4, (rd_T73 y895 x5_1).f5⟩ : S73) : List (S73))).bind fun y896 => ((some (y896.set (x5_1 : Int).toNat (⟨(rd_T73 y896 x5_1).f0, (⟨(rd_T73 y896 x5_1).f1.f0, (rd_T73 y896 x5_1).f1.f1⟩ : S38), (rd_T73 y896 x5_1).f2, (⟨(rd_T73 y896 x5_1).f3.f0, (rd_T73 y896 x5_1).f3.f1⟩ : S38), wrap64 ((wrap64 ((wrap64 ((wrap64 ((wrap64 ((wrap64 (x1_1 + 1)) + 1)) + 1)) + 1)) + 1)) + 1), (rd_T73 y896 x5_1).f5⟩ : S73) : List (S73))).bind fun y897 => (laws_markCellS.l0 k1 (y897.set (x5_1 : Int).toNat (⟨(rd_T73 y897 x5_1).f0, (⟨(rd_T73 y897 x5_1).f1.f0, (rd_T73 y897 x5_1).f1.f1⟩ : S38), (rd_T73 y897 x5_1).f2, (⟨(rd_T73 y897 x5_1).f3.f0, (rd_T73 y897 x5_1).f3.f1⟩ : S38), (rd_T73 y897 x5_1).f4, ((Int.tmod (wrap64 ((wrap64 ((wrap64 ((wrap64 ((wrap64 ((wrap64 ((wrap64 (x1_1 + 1)) + 1)) + 1)) + 1)) + 1)) + 1)) + 1)) 3) == 0)⟩ : S73)) (wrap64 ((wrap64 ((wrap64 ((wrap64 ((wrap64 ((wrap64 ((wrap64 ((wrap64 (x1_1 + 1)) + 1)) + 1)) + 1)) + 1)) + 1)) + 1)) + 1)) (wrap64 (x5_1 + 1))))))) = some (r1, r2) := by first | (rw [hy893]; with_reducible exact H) | (have H2_ := (Option.bind_some _ _).symm.trans H; rw [hy893]; with_reducible exact H2_) | (have H2_ := (Option.bind_some _ _).symm.trans H; with_reducible exact H2_) | with_reducible exact H | (rw [hy893]; exact H) | exact H
   have Ny893 := Aside0.mk hy893
   clear hy893
   obtain ⟨y894, hy894⟩ : ∃ y_ : List (S73), y_ = (y893.set (x5_1 : Int).toNat (⟨(rd_T73 y893 x5_1).f0, (⟨(rd_T73 y893 x5_1).f1.f0, (rd_T73 y893 x5_1).f1.f1⟩ : S38), wrap64 ((wrap64 ((wrap64 (x1_1 + 1)) + 1)) + 1), (⟨(rd_T73 y893 x5_1).f3.f0, (rd_T73 y893 x5_1).f3.f1⟩ : S38), (rd_T73 y893 x5_1).f4, (rd_T73 y893 x5_1).f5⟩ : S73)) := ⟨_, rfl⟩
   replace H : ((some (y894.set (x5_1 : Int).toNat (⟨(rd_T73 y894 x5_1).f0, (⟨(rd_T73 y894 x5_1).f1.f0, (rd_T73 y894 x5_1).f1.f1⟩ : S38), (rd_T73 y894 x5_1).f2, (⟨wrap64 ((wrap64 ((wrap64 ((wrap64 (x1_1 + 1)) + 1)) + 1)) + 1), (rd_T73 y894 x5_1).f3.f1⟩ : S38), (rd_T73 y894 x5_1).f4, (rd_T73 y894 x5_1).f5⟩ : S73) : List (S73))).bind fun y895 => ((some (y895.set (x5_1 : Int).toNat (⟨(rd_T73 y895 x5_1).f0, (⟨(rd_T73 y895 x5_1).f1.f0, (rd_T73 y895 x5_1).f1.f1⟩ : S38), (rd_T73 y895 x5_1).f2, (⟨(rd_T73 y895 x5_1).f3.f0, wrap64 ((wrap64 ((wrap64 ((wrap64 ((wrap64 (x1_1 + 1)) + 1)) + 1)) + 1)) + 1)⟩ : S38), (rd_T73 y895 x5_1).f4, (rd_T73 y895 x5_1).f5⟩ : S73) : List (S73))).bind fun y896 => ((some (y896.set (x5_1 : Int).toNat (⟨(rd_T73 y896 x5_1).f0, (⟨(rd_T73 y896 x5_1).f1.f0, (rd_T73 y896 x5_1).f1.f1⟩ : S38), (rd_T73 y896 x5_1).f2, (⟨(rd_T73 y896 x5_1).f3.f0, (rd_T73 y896 x5_1).f3.f1⟩ : S38), wrap64 ((wrap64 ((wrap64 ((wrap64 ((wrap64 ((wrap64 (x1_1 + 1)) + 1)) + 1)) + 1)) + 1)) + 1), (rd_T73 y896 x5_1).f5⟩ : S73) : List (S73))).bind fun y897 => (laws_markCellS.l0 k1 (y897.set (x5_1 : Int).toNat (⟨(rd_T73 y897 x5_1).f0, (⟨(rd_T73 y897 x5_1).f1.f0, (rd_T73 y897 x5_1).f1.f1⟩ : S38), (rd_T73 y897 x5_1).f2, (⟨(rd_T73 y897 x5_1).f3.f0, (rd_T73 y897 x5_1).f3.f1⟩ : S38), (rd_T73 y897 x5_1).f4, ((Int.tmod (wrap64 ((wrap64 ((wrap64 ((wrap64 ((wrap64 ((wrap64 ((wrap64 (x1_1 + 1)) + 1)) + 1)) + 1)) + 1)) + 1)) + 1)) 3) == 0)⟩ : S73)) (wrap64 ((wrap64 ((wrap64 ((wrap64 ((wrap64 ((wrap64 ((wrap64 ((wrap64 (x1_1 + 1)) + 1)) + 1)) + 1)) + 1)) + 1)) + 1)) + 1)) (wrap64 (x5_1 + 1)))))) = some (r1, r2) := by first | (rw [hy894]; with_reducible exact H) | (have H2_ := (Option.bind_some _ _).symm.trans H; rw [hy894]; with_reducible exact H2_) | (have H2_ := (Option.bind_some _ _).symm.trans H; with_reducible exact H2_) | with_reducible exact H | (rw [hy894]; exact H) | exact H
   have Ny894 := Aside0.mk hy894
   clear hy894
   obtain ⟨y895, hy895⟩ : ∃ y_ : List (S73), y_ = (y894.set (x5_1 : Int).toNat (⟨(rd_T73 y894 x5_1).f0, (⟨(rd_T73 y894 x5_1).f1.f0, (rd_T73 y894 x5_1).f1.f1⟩ : S38), (rd_T73 y894 x5_1).f2, (⟨wrap64 ((wrap64 ((wrap64 ((wrap64 (x1_1 + 1)) + 1)) + 1)) + 1), (rd_T73 y894 x5_1).f3.f1⟩ : S38), (rd_T73 y894 x5_1).f4, (rd_T73 y894 x5_1).f5⟩ : S73)) := ⟨_, rfl⟩
   replace H : ((some (y895.set (x5_1 : Int).toNat (⟨(rd_T73 y895 x5_1).f0, (⟨(rd_T73 y895 x5_1).f1.f0, (rd_T73 y895 x5_1).f1.f1⟩ : S38), (rd_T73 y895 x5_1).f2, (⟨(rd_T73 y895 x5_1).f3.f0, wrap64 ((wrap64 ((wrap64 ((wrap64 ((wrap64 (x1_1 + 1)) + 1)) + 1)) + 1)) + 1)⟩ : S38), (rd_T73 y895 x5_1).f4, (rd_T73 y895 x5_1).f5⟩ : S73) : List (S73))).bind fun y896 => ((some (y896.set (x5_1 : Int).toNat (⟨(rd_T73 y896 x5_1).f0, (⟨(rd_T73 y896 x5_1).f1.f0, (rd_T73 y896 x5_1).f1.f1⟩ : S38), (rd_T73 y896 x5_1).f2, (⟨(rd_T73 y896 x5_1).f3.f0, (rd_T73 y896 x5_1).f3.f1⟩ : S38), wrap64 ((wrap64 ((wrap64 ((wrap64 ((wrap64 ((wrap64 (x1_1 + 1)) + 1)) + 1)) + 1)) + 1)) + 1), (rd_T73 y896 x5_1).f5⟩ : S73) : List (S73))).bind fun y897 => (laws_markCellS.l0 k1 (y897.set (x5_1 : Int).toNat (⟨(rd_T73 y897 x5_1).f0, (⟨(rd_T73 y897 x5_1).f1.f0, (rd_T73 y897 x5_1).f1.f1⟩ : S38), (rd_T73 y897 x5_1).f2, (⟨(rd_T73 y897 x5_1).f3.f0, (rd_T73 y897 x5_1).f3.f1⟩ : S38), (rd_T73 y897 x5_1).f4, ((Int.tmod (wrap64 ((wrap64 ((wrap64 ((wrap64 ((wrap64 ((wrap64 ((wrap64 (x1_1 + 1)) + 1)) + 1)) + 1)) + 1)) + 1)) + 1)) 3) == 0)⟩ : S73)) (wrap64 ((wrap64 ((wrap64 ((wrap64 ((wrap64 ((wrap64 ((wrap64 ((wrap64 (x1_1 + 1)) + 1)) + 1)) + 1)) + 1)) + 1)) + 1)) + 1)) (wrap64 (x5_1 + 1))))) = some (r1, r2) := by first | (rw [hy895]; with_reducible exact H) | (have H2_ := (Option.bind_some _ _).symm.trans H; rw [hy895]; with_reducible exact H2_) | (have H2_ := (Option.bind_some _ _).symm.trans H; with_reducible exact H2_) | with_reducible exact H | (rw [hy895]; exact H) | exact H
   have Ny895 := Aside0.mk hy895
   clear hy895
   obtain ⟨y896, hy896⟩ : ∃ y_ : List (S73), y_ = (y895.set (x5_1 : Int).toNat (⟨(rd_T73 y895 x5_1).f0, (⟨(rd_T73 y895 x5_1).f1.f0, (rd_T73 y895 x5_1).f1.f1⟩ : S38), (rd_T73 y895 x5_1).f2, (⟨(rd_T73 y895 x5_1).f3.f0, wrap64 ((wrap64 ((wrap64 ((wrap64 ((wrap64 (x1_1 + 1)) + 1)) + 1)) + 1)) + 1)⟩ : S38), (rd_T73 y895 x5_1).f4, (rd_T73 y895 x5_1).f5⟩ : S73)) := ⟨_, rfl⟩
   replace H : ((some (y896.set (x5_1 : Int).toNat (⟨(rd_T73 y896 x5_1).f0, (⟨(rd_T73 y896 x5_1).f1.f0, (rd_T73 y896 x5_1).f1.f1⟩ : S38), (rd_T73 y896 x5_1).f2, (⟨(rd_T73 y896 x5_1).f3.f0, (rd_T73 y896 x5_1).f3.f1⟩ : S38), wrap64 ((wrap64 ((wrap64 ((wrap64 ((wrap64 ((wrap64 (x1_1 + 1)) + 1)) + 1)) + 1)) + 1)) + 1), (rd_T73 y896 x5_1).f5⟩ : S73) : List (S73))).bind fun y897 => (laws_markCellS.l0 k1 (y897.set (x5_1 : Int).toNat (⟨(rd_T73 y897 x5_1).f0, (⟨(rd_T73 y897 x5_1).f1.f0, (rd_T73 y897 x5_1).f1.f1⟩ : S38), (rd_T73 y897 x5_1).f2, (⟨(rd_T73 y897 x5_1).f3.f0, (rd_T73 y897 x5_1).f3.f1⟩ : S38), (rd_T73 y897 x5_1).f4, ((Int.tmod (wrap64 ((wrap64 ((wrap64 ((wrap64 ((wrap64 ((wrap64 ((wrap64 (x1_1 + 1)) + 1)) + 1)) + 1)) + 1)) + 1)) + 1)) 3) == 0)⟩ : S73)) (wrap64 ((wrap64 ((wrap64 ((wrap64 ((wrap64 ((wrap64 ((wrap64 ((wrap64 (x1_1 + 1)) + 1)) + 1)) + 1)) + 1)) + 1)) + 1)) + 1)) (wrap64 (x5_1 + 1)))) = some (r1, r2) := by first | (rw [hy896]; with_reducible exact H) | (have H2_ := (Option.bind_some _ _).symm.trans H; rw [hy896]; with_reducible exact H2_) | (have H2_ := (Option.bind_some _ _).symm.trans H; with_reducible exact H2_) | with_reducible exact H | (rw [hy896]; exact H) | exact H
   have Ny896 := Aside0.mk hy896
   clear hy896
   obtain ⟨y897, hy897⟩ : ∃ y_ : List (S73), y_ = (y896.set (x5_1 : Int).toNat (⟨(rd_T73 y896 x5_1).f0, (⟨(rd_T73 y896 x5_1).f1.f0, (rd_T73 y896 x5_1).f1.f1⟩ : S38), (rd_T73 y896 x5_1).f2, (⟨(rd_T73 y896 x5_1).f3.f0, (rd_T73 y896 x5_1).f3.f1⟩ : S38), wrap64 ((wrap64 ((wrap64 ((wrap64 ((wrap64 ((wrap64 (x1_1 + 1)) + 1)) + 1)) + 1)) + 1)) + 1), (rd_T73 y896 x5_1).f5⟩ : S73)) := ⟨_, rfl⟩
   replace H : (laws_markCellS.l0 k1 (y897.set (x5_1 : Int).toNat (⟨(rd_T73 y897 x5_1).f0, (⟨(rd_T73 y897 x5_1).f1.f0, (rd_T73 y897 x5_1).f1.f1⟩ : S38), (rd_T73 y897 x5_1).f2, (⟨(rd_T73 y897 x5_1).f3.f0, (rd_T73 y897 x5_1).f3.f1⟩ : S38), (rd_T73 y897 x5_1).f4, ((Int.tmod (wrap64 ((wrap64 ((wrap64 ((wrap64 ((wrap64 ((wrap64 ((wrap64 (x1_1 + 1)) + 1)) + 1)) + 1)) + 1)) + 1)) + 1)) 3) == 0)⟩ : S73)) (wrap64 ((wrap64 ((wrap64 ((wrap64 ((wrap64 ((wrap64 ((wrap64 ((wrap64 (x1_1 + 1)) + 1)) + 1)) + 1)) + 1)) + 1)) + 1)) + 1)) (wrap64 (x5_1 + 1))) = some (r1, r2) := by first | (rw [hy897]; with_reducible exact H) | (have H2_ := (Option.bind_some _ _).symm.trans H; rw [hy897]; with_reducible exact H2_) | (have H2_ := (Option.bind_some _ _).symm.trans H; with_reducible exact H2_) | with_reducible exact H | (rw [hy897]; exact H) | exact H
   have Ny897 := Aside0.mk hy897
   clear hy897
   obtain ⟨y898, hy898⟩ : ∃ y_ : List (S73), y_ = (y897.set (x5_1 : Int).toNat (⟨(rd_T73 y897 x5_1).f0, (⟨(rd_T73 y897 x5_1).f1.f0, (rd_T73 y897 x5_1).f1.f1⟩ : S38), (rd_T73 y897 x5_1).f2, (⟨(rd_T73 y897 x5_1).f3.f0, (rd_T73 y897 x5_1).f3.f1⟩ : S38), (rd_T73 y897 x5_1).f4, ((Int.tmod (wrap64 ((wrap64 ((wrap64 ((wrap64 ((wrap64 ((wrap64 ((wrap64 (x1_1 + 1)) + 1)) + 1)) + 1)) + 1)) + 1)) + 1)) 3) == 0)⟩ : S73)) := ⟨_, rfl⟩
   replace H : (laws_markCellS.l0 k1 y898 (wrap64 ((wrap64 ((wrap64 ((wrap64 ((wrap64 ((wrap64 ((wrap64 ((wrap64 (x1_1 + 1)) + 1)) + 1)) + 1)) + 1)) + 1)) + 1)) + 1)) (wrap64 (x5_1 + 1))) = some (r1, r2) := by first | (rw [hy898]; with_reducible exact H) | (have H2_ := (Option.bind_some _ _).symm.trans H; rw [hy898]; with_reducible exact H2_) | (have H2_ := (Option.bind_some _ _).symm.trans H; with_reducible exact H2_) | with_reducible exact H | (rw [hy898]; exact H) | exact H
   have Ny898 := Aside0.mk hy898
   clear hy898
   have H' := Aside0.mk H
   clear H
   obtain ⟨Ao14, co14, eo14⟩ := Kd.R_slice HO_0.out
   subst eo14
   go_wp2_with (first | ((with_reducible refine gate_callee (f := 89) rfl ?_); refine goesL_ (some 15) rfl rfl Try.func89 z31_13 rfl #[.int .i64 x1_1] rfl z31_7 ?_; (with_reducible refine (laws_markText.calls k1 x1_1 t890 _ A4.out).mono ?_); rintro e w15 ⟨rfl, hb⟩; refine ⟨_, rfl, ?_⟩; replace HO_0 := Aside0.mk (Kd.R_below z31_6 hb); replace HK := Aside0.mk (Kept.below (S := (fun k_ => P0_ k_)) z31_4 hb); replace HB := Aside0.mk (below_step z31_0 hb); have p6 : 0 ≤ (x5_1 : Int) := of_decide_eq_true z31_1; have q6 : (x5_1 : Int) < ((x0_1.length : Int) : Int) := of_decide_eq_true z31_1; obtain ⟨go6, co6, eo6, gb6, gl6, cl6, HG6⟩ := Kd.R_form HO_0.out (by omega); (first | cases eo6 | (injection eo6 with ea_ en_ ec_; (first | subst ea_ | (injection ea_ with ea_; subst ea_)); subst ec_; clear en_)); have GB6 := Aside0.mk gb6; have GG6 := Aside0.mk HG6; clear gb6 gl6 HG6; have HMgo6 := Aside0.mk (show (P0_ go6 ∨ w.heap.size ≤ go6) from (HO_0.out.1 _ rfl)); obtain ⟨ce6, hcl6, hM6, hcc6, hfr6⟩ := Kd.R_elem HO_0.out z73 (x5_1 : Int) p6 q6; obtain rfl := k73_openM hM6; clear hcl6 hcc6 hfr6 hM6; replace p6 := eq_true p6; replace q6 := eq_true q6; have HX16 := Aside0.mk (show Kd.R k73 73 w15 w0.heap.size (fun k_ => (P0_ k_ ∨ w.heap.size ≤ k_)) (.slice (some ⟨go6, 0, none⟩) x0_1.length co14) x0_1 from z31_6); obtain ⟨ce16, hcl16, hM16, hcc16, hfr16⟩ := Kd.R_elem HX16.out z73 (x5_1 : Int) (of_decide_eq_true z31_1) (by have h_ : (x5_1 : Int) < ((x0_1.length : Int) : Int) := of_decide_eq_true z31_1; first | exact h_ | (have e_ := (Kd.R_reads' HO_0.out).1; omega) | simpa using h_); obtain rfl := k73_openM hM16; have HP16 := Kd.R_seg HX16.out (x5_1 : Int) (of_decide_eq_true z31_1) (by have h_ : (x5_1 : Int) < ((x0_1.length : Int) : Int) := of_decide_eq_true z31_1; first | exact h_ | (have e_ := (Kd.R_reads' HO_0.out).1; omega) | simpa using h_) (seg := [.string t890]) (j := 0) hcl16 hcc16 (show 1 ≤ 8 from by decide) (x' := (⟨t890, (⟨(rd_T73 x0_1 x5_1).f1.f0, (rd_T73 x0_1 x5_1).f1.f1⟩ : S38), (rd_T73 x0_1 x5_1).f2, (⟨(rd_T73 x0_1 x5_1).f3.f0, (rd_T73 x0_1 x5_1).f3.f1⟩ : S38), (rd_T73 x0_1 x5_1).f4, (rd_T73 x0_1 x5_1).f5⟩ : S73)) (k73_mkM _ _ _ (⟨t890, (⟨(rd_T73 x0_1 x5_1).f1.f0, (rd_T73 x0_1 x5_1).f1.f1⟩ : S38), (rd_T73 x0_1 x5_1).f2, (⟨(rd_T73 x0_1 x5_1).f3.f0, (rd_T73 x0_1 x5_1).f3.f1⟩ : S38), (rd_T73 x0_1 x5_1).f4, (rd_T73 x0_1 x5_1).f5⟩ : S73) ) (fun _ hk => hk); have hx16_0 := hcc16 0 _ rfl; (try simp only [show (k73).sz = 8 from rfl, Nat.mul_one, Nat.add_zero] at hx16_0); have hf16_0 := hfr16 0; (try simp only [show (k73).sz = 8 from rfl, Nat.mul_one, Nat.add_zero] at hf16_0); clear hcl16 hcc16 hfr16 hM16) | ((with_reducible refine gate_store (t := 9) (p := 17) rfl ?_); refine store_event (t := 9) (p := 17) (v := ?vo_w17) (w1 := (w15.setCell ⟨go6, (x5_1 : Int).toNat * 8, none⟩ (.string t890))) ?hg ?ho ?hn ?hr ?_; (case ho => rfl); (case hg => rfl); (case hn => rfl); (case hr => first | (go_simp; done) | (go_simp; rfl)); intro w17 hw; have hg : w15.grownBy w17 (some go6) := (by rw [hw]; exact HP16.2); have hp_ : Kd.R k73 73 w17 w0.heap.size (fun k_ => (P0_ k_ ∨ w.heap.size ≤ k_)) (.slice (some ⟨go6, 0, none⟩) x0_1.length co14) y891 := (by rw [hw, Ny891.out]; exact HP16.1); clear HP16; replace HB := Aside0.mk ((by rw [hw]; exact below_set (HB.out) GB6.out : Below w0.heap.size w0 w17)); replace HK := Aside0.mk (Kept.of_grown (S := (fun k_ => P0_ k_)) hg z31_4 (fun k_ e_ => (HO_0.out.1 k_ e_))); replace HO_0 := Aside0.mk (hp_); clear hg hw hp_; have HX18 := Aside0.mk (show Kd.R k73 73 w17 w0.heap.size (fun k_ => (P0_ k_ ∨ w.heap.size ≤ k_)) (.slice (some ⟨go6, 0, none⟩) x0_1.length co14) y891 from z31_6); obtain ⟨ce18, hcl18, hM18, hcc18, hfr18⟩ := Kd.R_elem HX18.out z73 (x5_1 : Int) (of_decide_eq_true z31_1) (by have h_ : (x5_1 : Int) < ((x0_1.length : Int) : Int) := of_decide_eq_true z31_1; first | exact h_ | (have e_ := (Kd.R_reads' HO_0.out).1; omega) | simpa using h_); obtain rfl := k73_openM hM18; have HP18 := Kd.R_seg HX18.out (x5_1 : Int) (of_decide_eq_true z31_1) (by have h_ : (x5_1 : Int) < ((x0_1.length : Int) : Int) := of_decide_eq_true z31_1; first | exact h_ | (have e_ := (Kd.R_reads' HO_0.out).1; omega) | simpa using h_) (seg := [.int .i64 (wrap64 (x1_1 + 1))]) (j := 1) hcl18 hcc18 (show 2 ≤ 8 from by decide) (x' := (⟨(rd_T73 y891 x5_1).f0, (⟨wrap64 (x1_1 + 1), (rd_T73 y891 x5_1).f1.f1⟩ : S38), (rd_T73 y891 x5_1).f2, (⟨(rd_T73 y891 x5_1).f3.f0, (rd_T73 y891 x5_1).f3.f1⟩ : S38), (rd_T73 y891 x5_1).f4, (rd_T73 y891 x5_1).f5⟩ : S73)) (k73_mkM _ _ _ (⟨(rd_T73 y891 x5_1).f0, (⟨wrap64 (x1_1 + 1), (rd_T73 y891 x5_1).f1.f1⟩ : S38), (rd_T73 y891 x5_1).f2, (⟨(rd_T73 y891 x5_1).f3.f0, (rd_T73 y891 x5_1).f3.f1⟩ : S38), (rd_T73 y891 x5_1).f4, (rd_T73 y891 x5_1).f5⟩ : S73) ) (fun _ hk => hk); have hx18_1 := hcc18 1 _ rfl; (try simp only [show (k73).sz = 8 from rfl, Nat.mul_one, Nat.add_zero] at hx18_1); have hf18_1 := hfr18 1; (try simp only [show (k73).sz = 8 from rfl, Nat.mul_one, Nat.add_zero] at hf18_1); clear hcl18 hcc18 hfr18 hM18) | ((with_reducible refine gate_store (t := 3) (p := 25) rfl ?_); refine store_event (t := 3) (p := 25) (v := ?vo_w19) (w1 := (w17.setCell ⟨go6, (x5_1 : Int).toNat * 8 + 1, none⟩ (.int .i64 (wrap64 (x1_1 + 1))))) ?hg ?ho ?hn ?hr ?_; (case ho => rfl); (case hg => rfl); (case hn => rfl); (case hr => first | (go_simp; done) | (go_simp; rfl)); intro w19 hw; have hg : w17.grownBy w19 (some go6) := (by rw [hw]; exact HP18.2); have hp_ : Kd.R k73 73 w19 w0.heap.size (fun k_ => (P0_ k_ ∨ w.heap.size ≤ k_)) (.slice (some ⟨go6, 0, none⟩) x0_1.length co14) y892 := (by rw [hw, Ny892.out]; exact HP18.1); clear HP18; replace HB := Aside0.mk ((by rw [hw]; exact below_set (HB.out) GB6.out : Below w0.heap.size w0 w19)); replace HK := Aside0.mk (Kept.of_grown (S := (fun k_ => P0_ k_)) hg z31_4 (fun k_ e_ => (HO_0.out.1 k_ e_))); replace HO_0 := Aside0.mk (hp_); clear hg hw hp_; have HX20 := Aside0.mk (show Kd.R k73 73 w19 w0.heap.size (fun k_ => (P0_ k_ ∨ w.heap.size ≤ k_)) (.slice (some ⟨go6, 0, none⟩) x0_1.length co14) y892 from z31_6); obtain ⟨ce20, hcl20, hM20, hcc20, hfr20⟩ := Kd.R_elem HX20.out z73 (x5_1 : Int) (of_decide_eq_true z31_1) (by have h_ : (x5_1 : Int) < ((x0_1.length : Int) : Int) := of_decide_eq_true z31_1; first | exact h_ | (have e_ := (Kd.R_reads' HO_0.out).1; omega) | simpa using h_); obtain rfl := k73_openM hM20; have HP20 := Kd.R_seg HX20.out (x5_1 : Int) (of_decide_eq_true z31_1) (by have h_ : (x5_1 : Int) < ((x0_1.length : Int) : Int) := of_decide_eq_true z31_1; first | exact h_ | (have e_ := (Kd.R_reads' HO_0.out).1; omega) | simpa using h_) (seg := [.int .i64 (wrap64 ((wrap64 (x1_1 + 1)) + 1))]) (j := 2) hcl20 hcc20 (show 3 ≤ 8 from by decide) (x' := (⟨(rd_T73 y892 x5_1).f0, (⟨(rd_T73 y892 x5_1).f1.f0, wrap64 ((wrap64 (x1_1 + 1)) + 1)⟩ : S38), (rd_T73 y892 x5_1).f2, (⟨(rd_T73 y892 x5_1).f3.f0, (rd_T73 y892 x5_1).f3.f1⟩ : S38), (rd_T73 y892 x5_1).f4, (rd_T73 y892 x5_1).f5⟩ : S73)) (k73_mkM _ _ _ (⟨(rd_T73 y892 x5_1).f0, (⟨(rd_T73 y892 x5_1).f1.f0, wrap64 ((wrap64 (x1_1 + 1)) + 1)⟩ : S38), (rd_T73 y892 x5_1).f2, (⟨(rd_T73 y892 x5_1).f3.f0, (rd_T73 y892 x5_1).f3.f1⟩ : S38), (rd_T73 y892 x5_1).f4, (rd_T73 y892 x5_1).f5⟩ : S73) ) (fun _ hk => hk); have hx20_2 := hcc20 2 _ rfl; (try simp only [show (k73).sz = 8 from rfl, Nat.mul_one, Nat.add_zero] at hx20_2); have hf20_2 := hfr20 2; (try simp only [show (k73).sz = 8 from rfl, Nat.mul_one, Nat.add_zero] at hf20_2); clear hcl20 hcc20 hfr20 hM20) | ((with_reducible refine gate_store (t := 3) (p := 33) rfl ?_); refine store_event (t := 3) (p := 33) (v := ?vo_w21) (w1 := (w19.setCell ⟨go6, (x5_1 : Int).toNat * 8 + 2, none⟩ (.int .i64 (wrap64 ((wrap64 (x1_1 + 1)) + 1))))) ?hg ?ho ?hn ?hr ?_; (case ho => rfl); (case hg => rfl); (case hn => rfl); (case hr => first | (go_simp; done) | (go_simp; rfl)); intro w21 hw; have hg : w19.grownBy w21 (some go6) := (by rw [hw]; exact HP20.2); have hp_ : Kd.R k73 73 w21 w0.heap.size (fun k_ => (P0_ k_ ∨ w.heap.size ≤ k_)) (.slice (some ⟨go6, 0, none⟩) x0_1.length co14) y893 := (by rw [hw, Ny893.out]; exact HP20.1); clear HP20; replace HB := Aside0.mk ((by rw [hw]; exact below_set (HB.out) GB6.out : Below w0.heap.size w0 w21)); replace HK := Aside0.mk (Kept.of_grown (S := (fun k_ => P0_ k_)) hg z31_4 (fun k_ e_ => (HO_0.out.1 k_ e_))); replace HO_0 := Aside0.mk (hp_); clear hg hw hp_; have HX22 := Aside0.mk (show Kd.R k73 73 w21 w0.heap.size (fun k_ => (P0_ k_ ∨ w.heap.size ≤ k_)) (.slice (some ⟨go6, 0, none⟩) x0_1.length co14) y893 from z31_6); obtain ⟨ce22, hcl22, hM22, hcc22, hfr22⟩ := Kd.R_elem HX22.out z73 (x5_1 : Int) (of_decide_eq_true z31_1) (by have h_ : (x5_1 : Int) < ((x0_1.length : Int) : Int) := of_decide_eq_true z31_1; first | exact h_ | (have e_ := (Kd.R_reads' HO_0.out).1; omega) | simpa using h_); obtain rfl := k73_openM hM22; have HP22 := Kd.R_seg HX22.out (x5_1 : Int) (of_decide_eq_true z31_1) (by have h_ : (x5_1 : Int) < ((x0_1.length : Int) : Int) := of_decide_eq_true z31_1; first | exact h_ | (have e_ := (Kd.R_reads' HO_0.out).1; omega) | simpa using h_) (seg := [.int .i64 (wrap64 ((wrap64 ((wrap64 (x1_1 + 1)) + 1)) + 1))]) (j := 3) hcl22 hcc22 (show 4 ≤ 8 from by decide) (x' := (⟨(rd_T73 y893 x5_1).f0, (⟨(rd_T73 y893 x5_1).f1.f0, (rd_T73 y893 x5_1).f1.f1⟩ : S38), wrap64 ((wrap64 ((wrap64 (x1_1 + 1)) + 1)) + 1), (⟨(rd_T73 y893 x5_1).f3.f0, (rd_T73 y893 x5_1).f3.f1⟩ : S38), (rd_T73 y893 x5_1).f4, (rd_T73 y893 x5_1).f5⟩ : S73)) (k73_mkM _ _ _ (⟨(rd_T73 y893 x5_1).f0, (⟨(rd_T73 y893 x5_1).f1.f0, (rd_T73 y893 x5_1).f1.f1⟩ : S38), wrap64 ((wrap64 ((wrap64 (x1_1 + 1)) + 1)) + 1), (⟨(rd_T73 y893 x5_1).f3.f0, (rd_T73 y893 x5_1).f3.f1⟩ : S38), (rd_T73 y893 x5_1).f4, (rd_T73 y893 x5_1).f5⟩ : S73) ) (fun _ hk => hk); have hx22_3 := hcc22 3 _ rfl; (try simp only [show (k73).sz = 8 from rfl, Nat.mul_one, Nat.add_zero] at hx22_3); have hf22_3 := hfr22 3; (try simp only [show (k73).sz = 8 from rfl, Nat.mul_one, Nat.add_zero] at hf22_3); clear hcl22 hcc22 hfr22 hM22) | ((with_reducible refine gate_store (t := 3) (p := 40) rfl ?_); refine store_event (t := 3) (p := 40) (v := ?vo_w23) (w1 := (w21.setCell ⟨go6, (x5_1 : Int).toNat * 8 + 3, none⟩ (.int .i64 (wrap64 ((wrap64 ((wrap64 (x1_1 + 1)) + 1)) + 1))))) ?hg ?ho ?hn ?hr ?_; (case ho => rfl); (case hg => rfl); (case hn => rfl); (case hr => first | (go_simp; done) | (go_simp; rfl)); intro w23 hw; have hg : w21.grownBy w23 (some go6) := (by rw [hw]; exact HP22.2); have hp_ : Kd.R k73 73 w23 w0.heap.size (fun k_ => (P0_ k_ ∨ w.heap.size ≤ k_)) (.slice (some ⟨go6, 0, none⟩) x0_1.length co14) y894 := (by rw [hw, Ny894.out]; exact HP22.1); clear HP22; replace HB := Aside0.mk ((by rw [hw]; exact below_set (HB.out) GB6.out : Below w0.heap.size w0 w23)); replace HK := Aside0.mk (Kept.of_grown (S := (fun k_ => P0_ k_)) hg z31_4 (fun k_ e_ => (HO_0.out.1 k_ e_))); replace HO_0 := Aside0.mk (hp_); clear hg hw hp_; have HX24 := Aside0.mk (show Kd.R k73 73 w23 w0.heap.size (fun k_ => (P0_ k_ ∨ w.heap.size ≤ k_)) (.slice (some ⟨go6, 0, none⟩) x0_1.length co14) y894 from z31_6); obtain ⟨ce24, hcl24, hM24, hcc24, hfr24⟩ := Kd.R_elem HX24.out z73 (x5_1 : Int) (of_decide_eq_true z31_1) (by have h_ : (x5_1 : Int) < ((x0_1.length : Int) : Int) := of_decide_eq_true z31_1; first | exact h_ | (have e_ := (Kd.R_reads' HO_0.out).1; omega) | simpa using h_); obtain rfl := k73_openM hM24; have HP24 := Kd.R_seg HX24.out (x5_1 : Int) (of_decide_eq_true z31_1) (by have h_ : (x5_1 : Int) < ((x0_1.length : Int) : Int) := of_decide_eq_true z31_1; first | exact h_ | (have e_ := (Kd.R_reads' HO_0.out).1; omega) | simpa using h_) (seg := [.int .i64 (wrap64 ((wrap64 ((wrap64 ((wrap64 (x1_1 + 1)) + 1)) + 1)) + 1))]) (j := 4) hcl24 hcc24 (show 5 ≤ 8 from by decide) (x' := (⟨(rd_T73 y894 x5_1).f0, (⟨(rd_T73 y894 x5_1).f1.f0, (rd_T73 y894 x5_1).f1.f1⟩ : S38), (rd_T73 y894 x5_1).f2, (⟨wrap64 ((wrap64 ((wrap64 ((wrap64 (x1_1 + 1)) + 1)) + 1)) + 1), (rd_T73 y894 x5_1).f3.f1⟩ : S38), (rd_T73 y894 x5_1).f4, (rd_T73 y894 x5_1).f5⟩ : S73)) (k73_mkM _ _ _ (⟨(rd_T73 y894 x5_1).f0, (⟨(rd_T73 y894 x5_1).f1.f0, (rd_T73 y894 x5_1).f1.f1⟩ : S38), (rd_T73 y894 x5_1).f2, (⟨wrap64 ((wrap64 ((wrap64 ((wrap64 (x1_1 + 1)) + 1)) + 1)) + 1), (rd_T73 y894 x5_1).f3.f1⟩ : S38), (rd_T73 y894 x5_1).f4, (rd_T73 y894 x5_1).f5⟩ : S73) ) (fun _ hk => hk); have hx24_4 := hcc24 4 _ rfl; (try simp only [show (k73).sz = 8 from rfl, Nat.mul_one, Nat.add_zero] at hx24_4); have hf24_4 := hfr24 4; (try simp only [show (k73).sz = 8 from rfl, Nat.mul_one, Nat.add_zero] at hf24_4); clear hcl24 hcc24 hfr24 hM24) | ((with_reducible refine gate_store (t := 3) (p := 48) rfl ?_); refine store_event (t := 3) (p := 48) (v := ?vo_w25) (w1 := (w23.setCell ⟨go6, (x5_1 : Int).toNat * 8 + 4, none⟩ (.int .i64 (wrap64 ((wrap64 ((wrap64 ((wrap64 (x1_1 + 1)) + 1)) + 1)) + 1))))) ?hg ?ho ?hn ?hr ?_; (case ho => rfl); (case hg => rfl); (case hn => rfl); (case hr => first | (go_simp; done) | (go_simp; rfl)); intro w25 hw; have hg : w23.grownBy w25 (some go6) := (by rw [hw]; exact HP24.2); have hp_ : Kd.R k73 73 w25 w0.heap.size (fun k_ => (P0_ k_ ∨ w.heap.size ≤ k_)) (.slice (some ⟨go6, 0, none⟩) x0_1.length co14) y895 := (by rw [hw, Ny895.out]; exact HP24.1); clear HP24; replace HB := Aside0.mk ((by rw [hw]; exact below_set (HB.out) GB6.out : Below w0.heap.size w0 w25)); replace HK := Aside0.mk (Kept.of_grown (S := (fun k_ => P0_ k_)) hg z31_4 (fun k_ e_ => (HO_0.out.1 k_ e_))); replace HO_0 := Aside0.mk (hp_); clear hg hw hp_; have HX26 := Aside0.mk (show Kd.R k73 73 w25 w0.heap.size (fun k_ => (P0_ k_ ∨ w.heap.size ≤ k_)) (.slice (some ⟨go6, 0, none⟩) x0_1.length co14) y895 from z31_6); obtain ⟨ce26, hcl26, hM26, hcc26, hfr26⟩ := Kd.R_elem HX26.out z73 (x5_1 : Int) (of_decide_eq_true z31_1) (by have h_ : (x5_1 : Int) < ((x0_1.length : Int) : Int) := of_decide_eq_true z31_1; first | exact h_ | (have e_ := (Kd.R_reads' HO_0.out).1; omega) | simpa using h_); obtain rfl := k73_openM hM26; have HP26 := Kd.R_seg HX26.out (x5_1 : Int) (of_decide_eq_true z31_1) (by have h_ : (x5_1 : Int) < ((x0_1.length : Int) : Int) := of_decide_eq_true z31_1; first | exact h_ | (have e_ := (Kd.R_reads' HO_0.out).1; omega) | simpa using h_) (seg := [.int .i64 (wrap64 ((wrap64 ((wrap64 ((wrap64 ((wrap64 (x1_1 + 1)) + 1)) + 1)) + 1)) + 1))]) (j := 5) hcl26 hcc26 (show 6 ≤ 8 from by decide) (x' := (⟨(rd_T73 y895 x5_1).f0, (⟨(rd_T73 y895 x5_1).f1.f0, (rd_T73 y895 x5_1).f1.f1⟩ : S38), (rd_T73 y895 x5_1).f2, (⟨(rd_T73 y895 x5_1).f3.f0, wrap64 ((wrap64 ((wrap64 ((wrap64 ((wrap64 (x1_1 + 1)) + 1)) + 1)) + 1)) + 1)⟩ : S38), (rd_T73 y895 x5_1).f4, (rd_T73 y895 x5_1).f5⟩ : S73)) (k73_mkM _ _ _ (⟨(rd_T73 y895 x5_1).f0, (⟨(rd_T73 y895 x5_1).f1.f0, (rd_T73 y895 x5_1).f1.f1⟩ : S38), (rd_T73 y895 x5_1).f2, (⟨(rd_T73 y895 x5_1).f3.f0, wrap64 ((wrap64 ((wrap64 ((wrap64 ((wrap64 (x1_1 + 1)) + 1)) + 1)) + 1)) + 1)⟩ : S38), (rd_T73 y895 x5_1).f4, (rd_T73 y895 x5_1).f5⟩ : S73) ) (fun _ hk => hk); have hx26_5 := hcc26 5 _ rfl; (try simp only [show (k73).sz = 8 from rfl, Nat.mul_one, Nat.add_zero] at hx26_5); have hf26_5 := hfr26 5; (try simp only [show (k73).sz = 8 from rfl, Nat.mul_one, Nat.add_zero] at hf26_5); clear hcl26 hcc26 hfr26 hM26) | ((with_reducible refine gate_store (t := 3) (p := 56) rfl ?_); refine store_event (t := 3) (p := 56) (v := ?vo_w27) (w1 := (w25.setCell ⟨go6, (x5_1 : Int).toNat * 8 + 5, none⟩ (.int .i64 (wrap64 ((wrap64 ((wrap64 ((wrap64 ((wrap64 (x1_1 + 1)) + 1)) + 1)) + 1)) + 1))))) ?hg ?ho ?hn ?hr ?_; (case ho => rfl); (case hg => rfl); (case hn => rfl); (case hr => first | (go_simp; done) | (go_simp; rfl)); intro w27 hw; have hg : w25.grownBy w27 (some go6) := (by rw [hw]; exact HP26.2); have hp_ : Kd.R k73 73 w27 w0.heap.size (fun k_ => (P0_ k_ ∨ w.heap.size ≤ k_)) (.slice (some ⟨go6, 0, none⟩) x0_1.length co14) y896 := (by rw [hw, Ny896.out]; exact HP26.1); clear HP26; replace HB := Aside0.mk ((by rw [hw]; exact below_set (HB.out) GB6.out : Below w0.heap.size w0 w27)); replace HK := Aside0.mk (Kept.of_grown (S := (fun k_ => P0_ k_)) hg z31_4 (fun k_ e_ => (HO_0.out.1 k_ e_))); replace HO_0 := Aside0.mk (hp_); clear hg hw hp_; have HX28 := Aside0.mk (show Kd.R k73 73 w27 w0.heap.size (fun k_ => (P0_ k_ ∨ w.heap.size ≤ k_)) (.slice (some ⟨go6, 0, none⟩) x0_1.length co14) y896 from z31_6); obtain ⟨ce28, hcl28, hM28, hcc28, hfr28⟩ := Kd.R_elem HX28.out z73 (x5_1 : Int) (of_decide_eq_true z31_1) (by have h_ : (x5_1 : Int) < ((x0_1.length : Int) : Int) := of_decide_eq_true z31_1; first | exact h_ | (have e_ := (Kd.R_reads' HO_0.out).1; omega) | simpa using h_); obtain rfl := k73_openM hM28; have HP28 := Kd.R_seg HX28.out (x5_1 : Int) (of_decide_eq_true z31_1) (by have h_ : (x5_1 : Int) < ((x0_1.length : Int) : Int) := of_decide_eq_true z31_1; first | exact h_ | (have e_ := (Kd.R_reads' HO_0.out).1; omega) | simpa using h_) (seg := [.int .i64 (wrap64 ((wrap64 ((wrap64 ((wrap64 ((wrap64 ((wrap64 (x1_1 + 1)) + 1)) + 1)) + 1)) + 1)) + 1))]) (j := 6) hcl28 hcc28 (show 7 ≤ 8 from by decide) (x' := (⟨(rd_T73 y896 x5_1).f0, (⟨(rd_T73 y896 x5_1).f1.f0, (rd_T73 y896 x5_1).f1.f1⟩ : S38), (rd_T73 y896 x5_1).f2, (⟨(rd_T73 y896 x5_1).f3.f0, (rd_T73 y896 x5_1).f3.f1⟩ : S38), wrap64 ((wrap64 ((wrap64 ((wrap64 ((wrap64 ((wrap64 (x1_1 + 1)) + 1)) + 1)) + 1)) + 1)) + 1), (rd_T73 y896 x5_1).f5⟩ : S73)) (k73_mkM _ _ _ (⟨(rd_T73 y896 x5_1).f0, (⟨(rd_T73 y896 x5_1).f1.f0, (rd_T73 y896 x5_1).f1.f1⟩ : S38), (rd_T73 y896 x5_1).f2, (⟨(rd_T73 y896 x5_1).f3.f0, (rd_T73 y896 x5_1).f3.f1⟩ : S38), wrap64 ((wrap64 ((wrap64 ((wrap64 ((wrap64 ((wrap64 (x1_1 + 1)) + 1)) + 1)) + 1)) + 1)) + 1), (rd_T73 y896 x5_1).f5⟩ : S73) ) (fun _ hk => hk); have hx28_6 := hcc28 6 _ rfl; (try simp only [show (k73).sz = 8 from rfl, Nat.mul_one, Nat.add_zero] at hx28_6); have hf28_6 := hfr28 6; (try simp only [show (k73).sz = 8 from rfl, Nat.mul_one, Nat.add_zero] at hf28_6); clear hcl28 hcc28 hfr28 hM28) | ((with_reducible refine gate_store (t := 3) (p := 63) rfl ?_); refine store_event (t := 3) (p := 63) (v := ?vo_w29) (w1 := (w27.setCell ⟨go6, (x5_1 : Int).toNat * 8 + 6, none⟩ (.int .i64 (wrap64 ((wrap64 ((wrap64 ((wrap64 ((wrap64 ((wrap64 (x1_1 + 1)) + 1)) + 1)) + 1)) + 1)) + 1))))) ?hg ?ho ?hn ?hr ?_; (case ho => rfl); (case hg => rfl); (case hn => rfl); (case hr => first | (go_simp; done) | (go_simp; rfl)); intro w29 hw; have hg : w27.grownBy w29 (some go6) := (by rw [hw]; exact HP28.2); have hp_ : Kd.R k73 73 w29 w0.heap.size (fun k_ => (P0_ k_ ∨ w.heap.size ≤ k_)) (.slice (some ⟨go6, 0, none⟩) x0_1.length co14) y897 := (by rw [hw, Ny897.out]; exact HP28.1); clear HP28; replace HB := Aside0.mk ((by rw [hw]; exact below_set (HB.out) GB6.out : Below w0.heap.size w0 w29)); replace HK := Aside0.mk (Kept.of_grown (S := (fun k_ => P0_ k_)) hg z31_4 (fun k_ e_ => (HO_0.out.1 k_ e_))); replace HO_0 := Aside0.mk (hp_); clear hg hw hp_; have HX30 := Aside0.mk (show Kd.R k73 73 w29 w0.heap.size (fun k_ => (P0_ k_ ∨ w.heap.size ≤ k_)) (.slice (some ⟨go6, 0, none⟩) x0_1.length co14) y897 from z31_6); obtain ⟨ce30, hcl30, hM30, hcc30, hfr30⟩ := Kd.R_elem HX30.out z73 (x5_1 : Int) (of_decide_eq_true z31_1) (by have h_ : (x5_1 : Int) < ((x0_1.length : Int) : Int) := of_decide_eq_true z31_1; first | exact h_ | (have e_ := (Kd.R_reads' HO_0.out).1; omega) | simpa using h_); obtain rfl := k73_openM hM30; have HP30 := Kd.R_seg HX30.out (x5_1 : Int) (of_decide_eq_true z31_1) (by have h_ : (x5_1 : Int) < ((x0_1.length : Int) : Int) := of_decide_eq_true z31_1; first | exact h_ | (have e_ := (Kd.R_reads' HO_0.out).1; omega) | simpa using h_) (seg := [.bool ((Int.tmod (wrap64 ((wrap64 ((wrap64 ((wrap64 ((wrap64 ((wrap64 ((wrap64 (x1_1 + 1)) + 1)) + 1)) + 1)) + 1)) + 1)) + 1)) 3) == 0)]) (j := 7) hcl30 hcc30 (show 8 ≤ 8 from by decide) (x' := (⟨(rd_T73 y897 x5_1).f0, (⟨(rd_T73 y897 x5_1).f1.f0, (rd_T73 y897 x5_1).f1.f1⟩ : S38), (rd_T73 y897 x5_1).f2, (⟨(rd_T73 y897 x5_1).f3.f0, (rd_T73 y897 x5_1).f3.f1⟩ : S38), (rd_T73 y897 x5_1).f4, ((Int.tmod (wrap64 ((wrap64 ((wrap64 ((wrap64 ((wrap64 ((wrap64 ((wrap64 (x1_1 + 1)) + 1)) + 1)) + 1)) + 1)) + 1)) + 1)) 3) == 0)⟩ : S73)) (k73_mkM _ _ _ (⟨(rd_T73 y897 x5_1).f0, (⟨(rd_T73 y897 x5_1).f1.f0, (rd_T73 y897 x5_1).f1.f1⟩ : S38), (rd_T73 y897 x5_1).f2, (⟨(rd_T73 y897 x5_1).f3.f0, (rd_T73 y897 x5_1).f3.f1⟩ : S38), (rd_T73 y897 x5_1).f4, ((Int.tmod (wrap64 ((wrap64 ((wrap64 ((wrap64 ((wrap64 ((wrap64 ((wrap64 (x1_1 + 1)) + 1)) + 1)) + 1)) + 1)) + 1)) + 1)) 3) == 0)⟩ : S73) ) (fun _ hk => hk); have hx30_7 := hcc30 7 _ rfl; (try simp only [show (k73).sz = 8 from rfl, Nat.mul_one, Nat.add_zero] at hx30_7); have hf30_7 := hfr30 7; (try simp only [show (k73).sz = 8 from rfl, Nat.mul_one, Nat.add_zero] at hf30_7); clear hcl30 hcc30 hfr30 hM30) | ((with_reducible refine gate_store (t := 4) (p := 72) rfl ?_); refine store_event (t := 4) (p := 72) (v := ?vo_w31) (w1 := (w29.setCell ⟨go6, (x5_1 : Int).toNat * 8 + 7, none⟩ (.bool ((Int.tmod (wrap64 ((wrap64 ((wrap64 ((wrap64 ((wrap64 ((wrap64 ((wrap64 (x1_1 + 1)) + 1)) + 1)) + 1)) + 1)) + 1)) + 1)) 3) == 0)))) ?hg ?ho ?hn ?hr ?_; (case ho => rfl); (case hg => rfl); (case hn => rfl); (case hr => first | (go_simp; done) | (go_simp; rfl)); intro w31 hw; have hg : w29.grownBy w31 (some go6) := (by rw [hw]; exact HP30.2); have hp_ : Kd.R k73 73 w31 w0.heap.size (fun k_ => (P0_ k_ ∨ w.heap.size ≤ k_)) (.slice (some ⟨go6, 0, none⟩) x0_1.length co14) y898 := (by rw [hw, Ny898.out]; exact HP30.1); clear HP30; replace HB := Aside0.mk ((by rw [hw]; exact below_set (HB.out) GB6.out : Below w0.heap.size w0 w31)); replace HK := Aside0.mk (Kept.of_grown (S := (fun k_ => P0_ k_)) hg z31_4 (fun k_ e_ => (HO_0.out.1 k_ e_))); replace HO_0 := Aside0.mk (hp_); clear hg hw hp_))
   go_roundg k1
   case measure => have := HK1.out; omega
   case rel => exact ⟨(y898), (wrap64 ((wrap64 ((wrap64 ((wrap64 ((wrap64 ((wrap64 ((wrap64 ((wrap64 (x1_1 + 1)) + 1)) + 1)) + 1)) + 1)) + 1)) + 1)) + 1)), (wrap64 (x5_1 + 1)), z31_10, z31_10, H', ⟨by have := HK1.out; omega⟩, ⟨z31_6⟩, ⟨z31_4⟩, ⟨z31_0⟩⟩
end Go.Proofs.Ytbanogkoaplcdaa.QDo
