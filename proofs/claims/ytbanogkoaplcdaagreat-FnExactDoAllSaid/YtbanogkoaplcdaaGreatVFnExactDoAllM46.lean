/- Parts of the proof of FnExactDoAll, one behind the other. No condition. -/
import Derived.Test.YtbanogkoaplcdaaGreatVFnExactDoAllM37
namespace Go.Proofs.YtbanogkoaplcdaaGreat.QDa
open Go.RowKit Go.Proofs.YtbanogkoaplcdaaGreat.Auto Go.Proofs.YtbanogkoaplcdaaGreat.Lock Go.Proofs.YtbanogkoaplcdaaGreat.Reg9 Go.Proofs.YtbanogkoaplcdaaGreat.Short Go.Proofs.YtbanogkoaplcdaaGreatW.PrintWords Go.Proofs.YtbanogkoaplcdaaGreatW.PrintLast Go.Proofs.YtbanogkoaplcdaaGreatW.PrintMore
attribute [local go_sem] max2_int min2_int max_two min_two max_three min_three max_four min_four   -- for this text's walks alone
set_option linter.unusedVariables false
set_option linter.unusedSimpArgs false
def impl_withCell.l0 : Nat → List (S96) → Int → ByteArray → Int → Int → Int → Int → Int → Int → Bool → Option ((List (S96)))
  | 0, _, _, _, _, _, _, _, _, _, _ => none
  | k + 1, x0, x5, x759000, x759001, x759002, x759003, x759004, x759005, x759006, x759007 => if x5 < (x0.length : Int) then (if 0 ≤ x5 then ((impl_compareDots.f k ((rd_T96 x0 x5).f1.f0) ((rd_T96 x0 x5).f1.f1) x759001 x759002).bind fun t760 => (if t760 < 0 then (impl_withCell.l0 k x0 (wrap64 (x5 + 1)) x759000 x759001 x759002 x759003 x759004 x759005 x759006 x759007) else ((some (([] : List (S96)) : List (S96))).bind fun y761 => (if x5 ≤ (x0.length : Int) then ((some (x0.take (x5 : Int).toNat : List (S96))).bind fun y764 => (if y761.length + y764.length < 1954687338268 then ((some (y761 ++ y764 : List (S96))).bind fun y768 => ((some (([(⟨x759000, (⟨x759001, x759002⟩ : S59), x759003, (⟨x759004, x759005⟩ : S59), x759006, x759007⟩ : S96)] : List (S96)) : List (S96))).bind fun y771 => (if y768.length + y771.length < 1954687338268 then ((some (y768 ++ y771 : List (S96))).bind fun y774 => ((some (x0.drop (x5 : Int).toNat : List (S96))).bind fun y777 => (if y774.length + y777.length < 1954687338268 then (some (y774 ++ y777)) else (none)))) else (none)))) else (none))) else (none))))) else (none)) else ((some (([] : List (S96)) : List (S96))).bind fun y784 => (if 0 ≤ x5 then (if x5 ≤ (x0.length : Int) then ((some (x0.take (x5 : Int).toNat : List (S96))).bind fun y787 => (if y784.length + y787.length < 1954687338268 then ((some (y784 ++ y787 : List (S96))).bind fun y791 => ((some (([(⟨x759000, (⟨x759001, x759002⟩ : S59), x759003, (⟨x759004, x759005⟩ : S59), x759006, x759007⟩ : S96)] : List (S96)) : List (S96))).bind fun y794 => (if y791.length + y794.length < 1954687338268 then ((some (y791 ++ y794 : List (S96))).bind fun y797 => ((some (x0.drop (x5 : Int).toNat : List (S96))).bind fun y800 => (if y797.length + y800.length < 1954687338268 then (some (y797 ++ y800)) else (none)))) else (none)))) else (none))) else (none)) else (none)))
def impl_withCell.f (k : Nat) (l0 : List (S96)) (a1_0 : ByteArray) (a1_1 : Int) (a1_2 : Int) (a1_3 : Int) (a1_4 : Int) (a1_5 : Int) (a1_6 : Int) (a1_7 : Bool) : Option ((List (S96))) := impl_withCell.l0 k l0 0 a1_0 a1_1 a1_2 a1_3 a1_4 a1_5 a1_6 a1_7
def impl_withCell.T2 : Bool × List (List Nat × List Nat) := (true, [([], []), ([], []), ([1], [1]), ([0, 2], [0, 2]), ([3], [3]), ([4], [4]), ([4], [4]), ([5, 6, 4], [4, 5, 6]), ([7, 4], [4, 7]), ([8, 4], [4, 8]), ([4], [4]), ([10, 4], [4, 10]), ([9, 11, 4, 4], [4, 9, 11]), ([12, 4], [4, 12]), ([4, 13], [4, 13])])
theorem impl_withCell.tab2 : rtab .any (opsOf Tryz.f65 2) = impl_withCell.T2 := by kernel_rfl
set_option maxHeartbeats 8000000 in
set_option maxRecDepth 100000 in
theorem impl_withCell.calls (k : Nat) (A0 : Option Addr) (c0 : Nat) (l0 : List (S96)) (a1_0 : ByteArray) (a1_1 : Int) (a1_2 : Int) (a1_3 : Int) (a1_4 : Int) (a1_5 : Int) (a1_6 : Int) (a1_7 : Bool) (r : List (S96)) (w : World) (hr0 : Kd.C k96 w A0 l0.length l0) (hc0 : l0.length ≤ c0) (h : impl_withCell.f k l0 a1_0 a1_1 a1_2 a1_3 a1_4 a1_5 a1_6 a1_7 = some r) :
  Calls Tryz.prog 65 #[.slice A0 l0.length c0, .agg #[.string a1_0, .int .i64 a1_1, .int .i64 a1_2, .int .i64 a1_3, .int .i64 a1_4, .int .i64 a1_5, .int .i64 a1_6, .bool a1_7]] w fun e w' => ∃ v0_ : Value, e = .returned (v0_) ∧ Kd.R k96 96 w' w.heap.size (fun _ => True) v0_ r ∧ Below w.heap.size w w' := by
 have hu96 := Tryz.underlying96
 have hu59 := Tryz.underlying59
 have HR0 := Aside0.mk hr0
 have HC0 := Aside0.mk hc0
 clear hr0 hc0
 have HB := Aside0.mk (Below.refl w.heap.size w)
 have H' := Aside0.mk h
 clear h
 go_enter Tryz.func65, Tryz.ntmps65
 go_wp2_with (((with_reducible refine gate_dst (N := 3) rfl ?_); refine bx_ (N := 3) ?_; intro g hg w1 hbox hb; have BK := Aside0.mk hbox; have GE := gw_ w zB hg; replace HB := Aside0.mk (below_step zB hb); clear hb hbox hg; have hcz := bc8 BK.out))
 go_loopg [5] k (fun kq v5 w' => ∃ (x5_1 : Int), v5 = .int .i64 x5_1 ∧ Aside0 (impl_withCell.l0 kq l0 x5_1 a1_0 a1_1 a1_2 a1_3 a1_4 a1_5 a1_6 a1_7 = some r) ∧ Aside0 (kq ≤ k) ∧ Aside0 (w'.heap[g]? = some (.cells #[.string a1_0, .int .i64 a1_1, .int .i64 a1_2, .int .i64 a1_3, .int .i64 a1_4, .int .i64 a1_5, .int .i64 a1_6, .bool a1_7] 96 (0, 0))) ∧ Aside0 (Below w.heap.size w w'))
 case atStart => exact ⟨0, zR, H', ⟨Nat.le_refl _⟩, ⟨zKf⟩, ⟨zB⟩⟩
 case round =>
  clear H' BK HB hcz
  obtain ⟨x, rfl, HA, HK1, BK, HB⟩ := hrel
  cases gk with
  | zero => exact absurd HA.out (by simp [impl_withCell.l0])
  | succ k1 =>
   have H := HA.out
   clear HA
   simp only [impl_withCell.l0] at H
   have hcz := bc8 BK.out
   replace H := ite_lt H
   rcases H with ⟨c, H⟩ | ⟨c, H⟩
   all_goals try
    (with_reducible replace H := ite_le H)
    rcases H with ⟨c', H⟩ | ⟨c', H⟩
    rotate_left
    · exact none_o H
    obtain ⟨ad, e, hx⟩ := at_T96 HR0.out x (of_decide_eq_true c') (of_decide_eq_true c)
    cases e
    have p := eqt c
    have p' := eqt c'
    have hy := cb8 HB.out hx
   repeat' (first
    | ((with_reducible refine none_o H); done)
    | ((with_reducible replace H := ite_t (by with_reducible assumption) H))
    | ((with_reducible replace H := ite_f (by with_reducible assumption) H))
    | ((with_reducible replace H := ite_n H); obtain ⟨LM, H⟩ := H)
    | ((with_reducible replace H := ite_lt H); rcases H with ⟨c1, H⟩ | ⟨c1, H⟩)
    | ((with_reducible replace H := ite_le H); rcases H with ⟨c1, H⟩ | ⟨c1, H⟩)
    | ((with_reducible replace H := ite_b H); rcases H with ⟨c1, H⟩ | ⟨c1, H⟩ <;> (fail_if_success subst c1))
    | ((with_reducible replace H := ite_ei H); rcases H with ⟨c1, H⟩ | ⟨c1, H⟩)
    | ((with_reducible replace H := ite_es H); rcases H with ⟨c1, H⟩ | ⟨c1, H⟩)
    | ((with_reducible replace H := bind_s H); (try dsimp only at H))
    | ((with_reducible replace H := bind_o H); obtain ⟨t, A, H⟩ := H; (try dsimp only at H)))
   all_goals
    have H' := Aside0.mk H
    clear H
    (try go_wp2)
    refine startk_ ⟨BK.out, HB.out⟩ (fun w_ hHeld => ?_); refine with_tabW impl_withCell.tab2 (B := []) zK (fun HT_ HW_ => ?_)
    clear BK HB hcz
    repeat (first | refine us_ ?_ | refine ps_ ?_ | refine ts_ hHeld ?_ (hv := by intro w' hs; have hc_ := bc8 hs.1; (try have hy_ := cb8 hs.2 hx); go_simp; with_reducible rfl) | (refine oc_ Tryz.func94 (impl_compareDots.calls _ _ _ _ _ _ _) zPb ?_; clear hHeld; intro w_ hHeld))
    refine done_ (done_of HT_.out zK) ?_
    have BK := Aside0.mk hHeld.1
    have HB := Aside0.mk hHeld.2
    (try simp only [World.drewN_drewN] at BK HB)
    (try go_wp2)
    first
    | (go_roundg k1; (case measure => exact zM); (case rel => exact ⟨_, zR, H', ⟨zM⟩, ⟨BK.out⟩, ⟨zB⟩⟩))
    | (have H := H'.out; obtain rfl := Option.some.inj H; clear H' HT_ HW_ hHeld
       refine reg9_ (d := k96) (fun _ _ _ => mk96) (fun _ _ _ _ _ _ h => h) Tryz.underlying33 info96 HR0.out HC0.out (of_decide_eq_true (by with_reducible assumption)) (of_decide_eq_true (by with_reducible assumption)) HB.out BK.out (lm4 (of_decide_eq_true (by with_reducible assumption)) (by with_reducible assumption)) (lm7 (ys := l0) (of_decide_eq_true (by with_reducible assumption)) (by with_reducible assumption)) (fun v0 v4 v6 v7 w2 ho hb => ?_)
       obtain ⟨A', c2', hcut, HR', HC'⟩ := cutf_ (kh := .i64) Tryz.underlying33 info96 HR0.out HC0.out (of_decide_eq_true (by with_reducible assumption)) (of_decide_eq_true (by with_reducible assumption))
       have HO := Aside0.mk ho
       replace HB := Aside0.mk hb
       clear ho hb BK
       simp only [Act.put, List.setIfInBounds_toArray, List.set_cons_zero, List.set_cons_succ]
       go_wp2_with ((at_builtin; refine apr_ (d := k96) (fun _ _ _ _ _ _ h => h) Tryz.underlying33 info96 HO.out (Kd.C_below HR'.out zB) zB (below_size zB) (lma (by with_reducible assumption)) ?_; intro v1 w3 ho hb; replace HO := Aside0.mk ho; replace HB := Aside0.mk hb; clear ho hb))
       go_ret
       exact ⟨_, zT, by simpa using HO.out, zB⟩)
end Go.Proofs.YtbanogkoaplcdaaGreat.QDa
