/- Parts of the proof of FnExactDoAll, one behind the other. No condition. -/
import Derived.Test.YtbanogkoaplcdaaGreatVFnExactDoAllM37
namespace Go.Proofs.YtbanogkoaplcdaaGreat.QDa
open Go.RowKit Go.Proofs.YtbanogkoaplcdaaGreat.Auto Go.Proofs.YtbanogkoaplcdaaGreat.Lock Go.Proofs.YtbanogkoaplcdaaGreat.Reg9 Go.Proofs.YtbanogkoaplcdaaGreat.Short Go.Proofs.YtbanogkoaplcdaaGreatW.PrintWords Go.Proofs.YtbanogkoaplcdaaGreatW.PrintLast Go.Proofs.YtbanogkoaplcdaaGreatW.PrintMore
attribute [local go_sem] max2_int min2_int max_two min_two max_three min_three max_four min_four   -- for this text's walks alone
set_option linter.unusedVariables false
set_option linter.unusedSimpArgs false
def impl_withLive.l0 : Nat → List (S93) → Int → Bool → ByteArray → ByteArray → Int → Int → Int → Option ((List (S93)))
  | 0, _, _, _, _, _, _, _, _ => none
  | k + 1, x0, x5, x691000, x691001, x691002, x691003, x691004, x691005 => if x5 < (x0.length : Int) then (if 0 ≤ x5 then ((impl_compareDots.f k ((rd_T93 x0 x5).f4.f0) ((rd_T93 x0 x5).f4.f1) x691004 x691005).bind fun t692 => (if t692 < 0 then (impl_withLive.l0 k x0 (wrap64 (x5 + 1)) x691000 x691001 x691002 x691003 x691004 x691005) else ((some (([] : List (S93)) : List (S93))).bind fun y693 => (if x5 ≤ (x0.length : Int) then ((some (x0.take (x5 : Int).toNat : List (S93))).bind fun y696 => (if y693.length + y696.length < 2199023255552 then ((some (y693 ++ y696 : List (S93))).bind fun y700 => ((some (([(⟨x691000, x691001, x691002, x691003, (⟨x691004, x691005⟩ : S59)⟩ : S93)] : List (S93)) : List (S93))).bind fun y703 => (if y700.length + y703.length < 2199023255552 then ((some (y700 ++ y703 : List (S93))).bind fun y706 => ((some (x0.drop (x5 : Int).toNat : List (S93))).bind fun y709 => (if y706.length + y709.length < 2199023255552 then (some (y706 ++ y709)) else (none)))) else (none)))) else (none))) else (none))))) else (none)) else ((some (([] : List (S93)) : List (S93))).bind fun y716 => (if 0 ≤ x5 then (if x5 ≤ (x0.length : Int) then ((some (x0.take (x5 : Int).toNat : List (S93))).bind fun y719 => (if y716.length + y719.length < 2199023255552 then ((some (y716 ++ y719 : List (S93))).bind fun y723 => ((some (([(⟨x691000, x691001, x691002, x691003, (⟨x691004, x691005⟩ : S59)⟩ : S93)] : List (S93)) : List (S93))).bind fun y726 => (if y723.length + y726.length < 2199023255552 then ((some (y723 ++ y726 : List (S93))).bind fun y729 => ((some (x0.drop (x5 : Int).toNat : List (S93))).bind fun y732 => (if y729.length + y732.length < 2199023255552 then (some (y729 ++ y732)) else (none)))) else (none)))) else (none))) else (none)) else (none)))
def impl_withLive.f (k : Nat) (l0 : List (S93)) (a1_0 : Bool) (a1_1 : ByteArray) (a1_2 : ByteArray) (a1_3 : Int) (a1_4 : Int) (a1_5 : Int) : Option ((List (S93))) := impl_withLive.l0 k l0 0 a1_0 a1_1 a1_2 a1_3 a1_4 a1_5
def impl_withLive.T2 : Bool × List (List Nat × List Nat) := (true, [([], []), ([], []), ([1], [1]), ([0, 2], [0, 2]), ([3], [3]), ([4], [4]), ([4], [4]), ([5, 6, 4], [4, 5, 6]), ([7, 4], [4, 7]), ([8, 4], [4, 8]), ([4], [4]), ([10, 4], [4, 10]), ([9, 11, 4, 4], [4, 9, 11]), ([12, 4], [4, 12]), ([4, 13], [4, 13])])
theorem impl_withLive.tab2 : rtab .any (opsOf Tryz.f63 2) = impl_withLive.T2 := by kernel_rfl
set_option maxHeartbeats 8000000 in
set_option maxRecDepth 100000 in
theorem impl_withLive.calls (k : Nat) (A0 : Option Addr) (c0 : Nat) (l0 : List (S93)) (a1_0 : Bool) (a1_1 : ByteArray) (a1_2 : ByteArray) (a1_3 : Int) (a1_4 : Int) (a1_5 : Int) (r : List (S93)) (w : World) (hr0 : Kd.C k93 w A0 l0.length l0) (hc0 : l0.length ≤ c0) (h : impl_withLive.f k l0 a1_0 a1_1 a1_2 a1_3 a1_4 a1_5 = some r) :
  Calls Tryz.prog 63 #[.slice A0 l0.length c0, .agg #[.bool a1_0, .string a1_1, .string a1_2, .int .i64 a1_3, .int .i64 a1_4, .int .i64 a1_5]] w fun e w' => ∃ v0_ : Value, e = .returned (v0_) ∧ Kd.R k93 93 w' w.heap.size (fun _ => True) v0_ r ∧ Below w.heap.size w w' := by
 have hu93 := Tryz.underlying93
 have hu59 := Tryz.underlying59
 have HR0 := Aside0.mk hr0
 have HC0 := Aside0.mk hc0
 clear hr0 hc0
 have HB := Aside0.mk (Below.refl w.heap.size w)
 have H' := Aside0.mk h
 clear h
 go_enter Tryz.func63, Tryz.ntmps63
 go_wp2_with (((with_reducible refine gate_dst (N := 3) rfl ?_); refine bx_ (N := 3) ?_; intro g hg w1 hbox hb; have BK := Aside0.mk hbox; have GE := gw_ w zB hg; replace HB := Aside0.mk (below_step zB hb); clear hb hbox hg; have hcz := bc6 BK.out))
 go_loopg [5] k (fun kq v5 w' => ∃ (x5_1 : Int), v5 = .int .i64 x5_1 ∧ Aside0 (impl_withLive.l0 kq l0 x5_1 a1_0 a1_1 a1_2 a1_3 a1_4 a1_5 = some r) ∧ Aside0 (kq ≤ k) ∧ Aside0 (w'.heap[g]? = some (.cells #[.bool a1_0, .string a1_1, .string a1_2, .int .i64 a1_3, .int .i64 a1_4, .int .i64 a1_5] 93 (0, 0))) ∧ Aside0 (Below w.heap.size w w'))
 case atStart => exact ⟨0, zR, H', ⟨Nat.le_refl _⟩, ⟨zKf⟩, ⟨zB⟩⟩
 case round =>
  clear H' BK HB hcz
  obtain ⟨x, rfl, HA, HK1, BK, HB⟩ := hrel
  cases gk with
  | zero => exact absurd HA.out (by simp [impl_withLive.l0])
  | succ k1 =>
   have H := HA.out
   clear HA
   simp only [impl_withLive.l0] at H
   have hcz := bc6 BK.out
   replace H := ite_lt H
   rcases H with ⟨c, H⟩ | ⟨c, H⟩
   all_goals try
    (with_reducible replace H := ite_le H)
    rcases H with ⟨c', H⟩ | ⟨c', H⟩
    rotate_left
    · exact none_o H
    obtain ⟨ad, e, hx⟩ := at_T93 HR0.out x (of_decide_eq_true c') (of_decide_eq_true c)
    cases e
    have p := eqt c
    have p' := eqt c'
    have hy := cb6 HB.out hx
   repeat' (first
    | ((with_reducible refine none_o H); done)
    | ((with_reducible replace H := ite_t (by with_reducible assumption) H))
    | ((with_reducible replace H := ite_f (by with_reducible assumption) H))
    | ((with_reducible replace H := ite_n H); obtain ⟨LM, H⟩ := H)
    | ((with_reducible replace H := ite_lt H); rcases H with ⟨c1, H⟩ | ⟨c1, H⟩)
    | ((with_reducible replace H := ite_le H); rcases H with ⟨c1, H⟩ | ⟨c1, H⟩)
    | ((with_reducible replace H := ite_b H); rcases H with ⟨c1, H⟩ | ⟨c1, H⟩ <;> (fail_if_success subst c1))
    | ((with_reducible replace H := ite_ei H); rcases H with ⟨c1, H⟩ | ⟨c1, H⟩)
    | ((with_reducible replace H := ite_es H); rcases H with ⟨c1, H⟩ | ⟨c1, H⟩)
    | ((with_reducible replace H := bind_s H); (try dsimp only at H))
    | ((with_reducible replace H := bind_o H); obtain ⟨t, A, H⟩ := H; (try dsimp only at H)))
   all_goals
    have H' := Aside0.mk H
    clear H
    (try go_wp2)
    refine startk_ ⟨BK.out, HB.out⟩ (fun w_ hHeld => ?_); refine with_tabW impl_withLive.tab2 (B := []) zK (fun HT_ HW_ => ?_)
    clear BK HB hcz
    repeat (first | refine us_ ?_ | refine ps_ ?_ | refine ts_ hHeld ?_ (hv := by intro w' hs; have hc_ := bc6 hs.1; (try have hy_ := cb6 hs.2 hx); go_simp; with_reducible rfl) | (refine oc_ Tryz.func94 (impl_compareDots.calls _ _ _ _ _ _ _) zPb ?_; clear hHeld; intro w_ hHeld))
    refine done_ (done_of HT_.out zK) ?_
    have BK := Aside0.mk hHeld.1
    have HB := Aside0.mk hHeld.2
    (try simp only [World.drewN_drewN] at BK HB)
    (try go_wp2)
    first
    | (go_roundg k1; (case measure => exact zM); (case rel => exact ⟨_, zR, H', ⟨zM⟩, ⟨BK.out⟩, ⟨zB⟩⟩))
    | (have H := H'.out; obtain rfl := Option.some.inj H; clear H' HT_ HW_ hHeld
       refine reg9_ (d := k93) (fun _ _ _ => mk93) (fun _ _ _ _ _ _ h => h) Tryz.underlying32 info93 HR0.out HC0.out (of_decide_eq_true (by with_reducible assumption)) (of_decide_eq_true (by with_reducible assumption)) HB.out BK.out (lm4 (of_decide_eq_true (by with_reducible assumption)) (by with_reducible assumption)) (lm7 (ys := l0) (of_decide_eq_true (by with_reducible assumption)) (by with_reducible assumption)) (fun v0 v4 v6 v7 w2 ho hb => ?_)
       obtain ⟨A', c2', hcut, HR', HC'⟩ := cutf_ (kh := .i64) Tryz.underlying32 info93 HR0.out HC0.out (of_decide_eq_true (by with_reducible assumption)) (of_decide_eq_true (by with_reducible assumption))
       have HO := Aside0.mk ho
       replace HB := Aside0.mk hb
       clear ho hb BK
       simp only [Act.put, List.setIfInBounds_toArray, List.set_cons_zero, List.set_cons_succ]
       go_wp2_with ((at_builtin; refine apr_ (d := k93) (fun _ _ _ _ _ _ h => h) Tryz.underlying32 info93 HO.out (Kd.C_below HR'.out zB) zB (below_size zB) (lma (by with_reducible assumption)) ?_; intro v1 w3 ho hb; replace HO := Aside0.mk ho; replace HB := Aside0.mk hb; clear ho hb))
       go_ret
       exact ⟨_, zT, by simpa using HO.out, zB⟩)
end Go.Proofs.YtbanogkoaplcdaaGreat.QDa
