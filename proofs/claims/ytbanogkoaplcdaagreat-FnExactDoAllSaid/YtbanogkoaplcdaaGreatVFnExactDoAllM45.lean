/- Parts of the proof of FnExactDoAll, one behind the other. No condition. -/
import Derived.Test.YtbanogkoaplcdaaGreatVFnExactDoAllM37
namespace Go.Proofs.YtbanogkoaplcdaaGreat.QDa
open Go.RowKit Go.Proofs.YtbanogkoaplcdaaGreat.Auto Go.Proofs.YtbanogkoaplcdaaGreat.Lock Go.Proofs.YtbanogkoaplcdaaGreat.Short Go.Proofs.YtbanogkoaplcdaaGreatW.PrintWords Go.Proofs.YtbanogkoaplcdaaGreatW.PrintLast Go.Proofs.YtbanogkoaplcdaaGreatW.PrintMore
attribute [local go_sem] max2_int min2_int max_two min_two max_three min_three max_four min_four   -- for this text's walks alone
set_option linter.unusedVariables false
set_option linter.unusedSimpArgs false
def impl_withoutKnown.l0 : Nat → Bool → List (S93) → List (S93) → Int → Int → Int → Int → Int → List Int → Int → ByteArray → ByteArray → Int → Int → Int → Option ((List (S93)))
  | 0, _, _, _, _, _, _, _, _, _, _, _, _, _, _, _ => none
  | k + 1, x1, x7, x11, x12, x13, x740000, x740001, x740002, x740003, x740004, x740005, x740006, x740007, x740008, x740009 => if x13 < x12 then (if 0 ≤ x13 then (if x13 < (x11.length : Int) then (if (((rd_T93 x11 x13).f0) != x1) = true then (if x7.length < 2199023255552 then (impl_withoutKnown.l0 k x1 (x7 ++ [(⟨(rd_T93 x11 x13).f0, (rd_T93 x11 x13).f1, (rd_T93 x11 x13).f2, (rd_T93 x11 x13).f3, (⟨(rd_T93 x11 x13).f4.f0, (rd_T93 x11 x13).f4.f1⟩ : S59)⟩ : S93)]) x11 x12 (wrap64 (x13 + 1)) x740000 x740001 x740002 x740003 x740004 x740005 x740006 x740007 x740008 x740009) else (none)) else (if ((rd_T93 x11 x13).f1).toList = x740005.toList then (if ((rd_T93 x11 x13).f2).toList = x740006.toList then ((impl_Knows.f k x740003 ((rd_T93 x11 x13).f4.f0) ((rd_T93 x11 x13).f4.f1)).bind fun t748 => (if t748 = true then (impl_withoutKnown.l0 k x1 x7 x11 x12 (wrap64 (x13 + 1)) x740000 x740001 x740002 x740003 x740004 x740005 x740006 x740007 x740008 x740009) else (if x7.length < 2199023255552 then (impl_withoutKnown.l0 k x1 (x7 ++ [(⟨(rd_T93 x11 x13).f0, (rd_T93 x11 x13).f1, (rd_T93 x11 x13).f2, (rd_T93 x11 x13).f3, (⟨(rd_T93 x11 x13).f4.f0, (rd_T93 x11 x13).f4.f1⟩ : S59)⟩ : S93)]) x11 x12 (wrap64 (x13 + 1)) x740000 x740001 x740002 x740003 x740004 x740005 x740006 x740007 x740008 x740009) else (none)))) else (if x7.length < 2199023255552 then (impl_withoutKnown.l0 k x1 (x7 ++ [(⟨(rd_T93 x11 x13).f0, (rd_T93 x11 x13).f1, (rd_T93 x11 x13).f2, (rd_T93 x11 x13).f3, (⟨(rd_T93 x11 x13).f4.f0, (rd_T93 x11 x13).f4.f1⟩ : S59)⟩ : S93)]) x11 x12 (wrap64 (x13 + 1)) x740000 x740001 x740002 x740003 x740004 x740005 x740006 x740007 x740008 x740009) else (none))) else (if x7.length < 2199023255552 then (impl_withoutKnown.l0 k x1 (x7 ++ [(⟨(rd_T93 x11 x13).f0, (rd_T93 x11 x13).f1, (rd_T93 x11 x13).f2, (rd_T93 x11 x13).f3, (⟨(rd_T93 x11 x13).f4.f0, (rd_T93 x11 x13).f4.f1⟩ : S59)⟩ : S93)]) x11 x12 (wrap64 (x13 + 1)) x740000 x740001 x740002 x740003 x740004 x740005 x740006 x740007 x740008 x740009) else (none)))) else (none)) else (none)) else (some x7)
def impl_withoutKnown.f (k : Nat) (l0 : List (S93)) (a1 : Bool) (a2_0 : Int) (a2_1 : Int) (a2_2 : Int) (l2_3 : List Int) (a2_4 : Int) (a2_5 : ByteArray) (a2_6 : ByteArray) (a2_7 : Int) (a2_8 : Int) (a2_9 : Int) : Option ((List (S93))) := impl_withoutKnown.l0 k a1 (([] : List (S93))) l0 (l0.length : Int) 0 a2_0 a2_1 a2_2 l2_3 a2_4 a2_5 a2_6 a2_7 a2_8 a2_9
set_option maxHeartbeats 8000000 in
set_option maxRecDepth 100000 in
theorem impl_withoutKnown.calls (k : Nat) (A0 : Option Addr) (c0 : Nat) (l0 : List (S93)) (a1 : Bool) (a2_0 : Int) (a2_1 : Int) (a2_2 : Int) (A2_3 : Option Addr) (c2_3 : Nat) (l2_3 : List Int) (a2_4 : Int) (a2_5 : ByteArray) (a2_6 : ByteArray) (a2_7 : Int) (a2_8 : Int) (a2_9 : Int) (r : List (S93)) (w : World) (hr0 : Kd.C k93 w A0 l0.length l0) (hc0 : l0.length ≤ c0) (hr2_3 : Kd.C (Kd.int .i64) w A2_3 l2_3.length l2_3) (hc2_3 : l2_3.length ≤ c2_3) (h : impl_withoutKnown.f k l0 a1 a2_0 a2_1 a2_2 l2_3 a2_4 a2_5 a2_6 a2_7 a2_8 a2_9 = some r) :
  Calls Tryz.prog 64 #[.slice A0 l0.length c0, .bool a1, .agg #[.int .i64 a2_0, .int .i64 a2_1, .int .i64 a2_2, .slice A2_3 l2_3.length c2_3, .int .i64 a2_4, .string a2_5, .string a2_6, .int .i64 a2_7, .int .i64 a2_8, .int .i64 a2_9]] w fun e w' => ∃ v0_ : Value, e = .returned (v0_) ∧ Kd.R k93 93 w' w.heap.size (fun _ => True) v0_ r ∧ Below w.heap.size w w' := by
 have hu61 := Tryz.underlying61
 have hu93 := Tryz.underlying93
 have hu59 := Tryz.underlying59
 have HR0 := Aside0.mk hr0
 have HC0 := Aside0.mk hc0
 clear hr0 hc0
 have HR2_3 := Aside0.mk hr2_3
 have HC2_3 := Aside0.mk hc2_3
 clear hr2_3 hc2_3
 have HB := Aside0.mk (Below.refl w.heap.size w)
 have H' := Aside0.mk h
 clear h
 go_enter Tryz.func64, Tryz.ntmps64
 go_wp2_with (first
   | ((with_reducible refine gate_dst (N := 5) rfl ?_); refine bx_ (N := 5) ?_; intro g hg w1 hbox hb; have BK := Aside0.mk hbox; have GE := gw_ w zB hg; replace HB := Aside0.mk (below_step zB hb); clear hb hbox hg; have hcz := bc10 BK.out)
   | ((with_reducible refine gate_dst (N := 10) rfl ?_); refine rl_ k93 93 (N := 10) zB ?_; intro v1 w1 ho hb; have HO := Aside0.mk (Kd.R_mono ho (ok' := fun k => k ≠ g) (fun k hk => Kd.freshB zKf k hk.2)); replace BK := bb_ BK zKf hb; replace HB := Aside0.mk (below_step zB hb); clear ho hb))
 go_loopg [7, 13] k (fun kq v7 v13 w' => ∃ (x7_1 : List (S93)) (x13_1 : Int), v13 = .int .i64 x13_1 ∧ Aside0 (impl_withoutKnown.l0 kq a1 x7_1 l0 (l0.length : Int) x13_1 a2_0 a2_1 a2_2 l2_3 a2_4 a2_5 a2_6 a2_7 a2_8 a2_9 = some r) ∧ Aside0 (kq ≤ k) ∧ Aside0 (Kd.R k93 93 w' w.heap.size (fun _ => True) v7 x7_1) ∧ Aside0 (w'.heap[g]? = some (.cells #[.int .i64 a2_0, .int .i64 a2_1, .int .i64 a2_2, (.slice A2_3 l2_3.length c2_3), .int .i64 a2_4, .string a2_5, .string a2_6, .int .i64 a2_7, .int .i64 a2_8, .int .i64 a2_9] 61 (0, 0))) ∧ Aside0 (Below w.heap.size w w'))
 case atStart => exact ⟨[], 0, zR, H', ⟨Nat.le_refl _⟩, ⟨zO⟩, ⟨zKf⟩, ⟨zB⟩⟩
 case round =>
  clear H' BK HB HO hcz
  obtain ⟨xs, x, rfl, HA, HK1, HO, BK, HB⟩ := hrel
  cases gk with
  | zero => exact absurd HA.out (by simp [impl_withoutKnown.l0])
  | succ k1 =>
   have H := HA.out
   clear HA
   simp only [impl_withoutKnown.l0] at H
   have hcz := bc10 BK.out
   replace H := ite_lt H
   rcases H with ⟨c, H⟩ | ⟨c, H⟩
   rotate_left
   ·
    obtain rfl := Option.some.inj H
    go_wp2
    go_ret
    exact ⟨_, zT, zO, zB⟩
   replace H := ite_le H
   rcases H with ⟨c', H⟩ | ⟨c', H⟩
   rotate_left
   · exact none_o H
   try replace H := ite_t c H
   obtain ⟨ad, e, hx⟩ := at_T93 HR0.out x (of_decide_eq_true c') (of_decide_eq_true c)
   cases e
   have p := eqt c
   have p' := eqt c'
   have hy := cb6 HB.out hx
   repeat' (first
    | ((with_reducible refine none_o H); done)
    | ((with_reducible replace H := ite_t (by with_reducible assumption) H))
    | ((with_reducible replace H := ite_f (by with_reducible assumption) H))
    | ((with_reducible replace H := ite_n H); obtain ⟨LM, H⟩ := H)
    | ((with_reducible replace H := ite_lt H); rcases H with ⟨c1, H⟩ | ⟨c1, H⟩)
    | ((with_reducible replace H := ite_le H); rcases H with ⟨c1, H⟩ | ⟨c1, H⟩)
    | ((with_reducible replace H := ite_nb H); rcases H with ⟨c1, H⟩ | ⟨c1, H⟩)
    | ((with_reducible replace H := ite_b H); rcases H with ⟨c1, H⟩ | ⟨c1, H⟩ <;> (fail_if_success subst c1))
    | ((with_reducible replace H := ite_ei H); rcases H with ⟨c1, H⟩ | ⟨c1, H⟩)
    | ((with_reducible replace H := ite_es H); rcases H with ⟨c1, H⟩ | ⟨c1, H⟩)
    | ((with_reducible replace H := bind_s H); (try dsimp only at H))
    | ((with_reducible replace H := bind_o H); obtain ⟨t, A, H⟩ := H; (try dsimp only at H))
    | ((with_reducible replace H := ite_b H); rcases H with ⟨rfl, H⟩ | ⟨rfl, H⟩))
   all_goals
    have H' := Aside0.mk H
    clear H
    go_wp2_with (first
      | ((with_reducible refine gate_dst (N := 9) rfl ?_); refine bx_ (N := 9) ?_; intro g2 hg w1 hbox hb; have BK2 := Aside0.mk hbox; have GE2 := gw_ w zB hg; replace HO := Aside0.mk (Kd.R_below (Kd.R_elderB zO g2 (Nat.le_of_eq hg.symm)) hb); replace HB := Aside0.mk (below_step zB hb); have NB := nb_ BK zKf hg; have NB' := nc_ BK zKf hg; replace BK := bb_ BK zKf hb; clear hb hbox hg; have hcz2 := bc6 BK2.out; have hn := NB.out; have hn' := NB'.out; have hcz := bc10 BK.out)
      | (go_at_call 59; (with_reducible refine (impl_Knows.calls _ _ _ _ _ _ _ _ zC zL zA).mono ?_); rintro e w' ⟨rfl, hb⟩; (with_reducible first | replace HO := Aside0.mk (Kd.R_below HO.out hb) | replace HO := Aside0.mk (Kd.R_below (farR6 HO.out) hb)); replace BK := bb_ BK zKf hb; (with_reducible first | replace BK2 := Aside0.mk (blk_below BK2.out hb) | replace BK2 := Aside0.mk (blk_below (blk_drewN BK2.out _) hb) | replace BK2 := Aside0.mk (blk_below (bpa6 BK2.out) hb) | replace BK2 := Aside0.mk (blk_below (blk_drewN (bpa6 BK2.out) _) hb)); have hcz := bc10 BK.out; have hcz2 := bc6 BK2.out; replace HB := Aside0.mk (below_step zB hb); clear hb)
      | (at_builtin; refine apk_ (ok := fun k => True) mk93 Tryz.underlying32 info93 zO zF zB (below_size zB) (ap_n (by with_reducible assumption)) ?_; intro v1 w1 ho hb hg; replace BK := Aside0.mk (blk_grown zKf hg (Kd.R_ne HO.out BK.out (by decide))); replace HB := Aside0.mk hb; replace HO := Aside0.mk ho; clear ho hb hg))
    go_roundg k1
    case measure => exact zM
    case rel => exact ⟨_, _, zR, H', ⟨zM⟩, ⟨zO⟩, ⟨zKf⟩, ⟨zB⟩⟩
end Go.Proofs.YtbanogkoaplcdaaGreat.QDa
