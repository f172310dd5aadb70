/- Parts of the proof of FnExactDoAll, one behind the other. No condition. -/
import Derived.Test.YtbanogkoaplcdaaGreatVFnExactDoAllM17
import Derived.Test.YtbanogkoaplcdaaGreatVFnExactDoAllM31
namespace Go.Proofs.YtbanogkoaplcdaaGreat.QDa
open Go.RowKit Go.Proofs.YtbanogkoaplcdaaGreat.Reg14 Go.Proofs.YtbanogkoaplcdaaGreat.Reg13 Go.Proofs.YtbanogkoaplcdaaGreat.Reg12 Go.Proofs.YtbanogkoaplcdaaGreat.Reg11 Go.Proofs.YtbanogkoaplcdaaGreat.Reg10 Go.Proofs.YtbanogkoaplcdaaGreat.Reg9 Go.Proofs.YtbanogkoaplcdaaGreat.Lock Go.Proofs.YtbanogkoaplcdaaGreat.Auto Go.Proofs.YtbanogkoaplcdaaGreat.Short Go.Proofs.YtbanogkoaplcdaaGreatW.PrintWords Go.Proofs.YtbanogkoaplcdaaGreatW.PrintLast Go.Proofs.YtbanogkoaplcdaaGreatW.PrintMore
set_option linter.unusedVariables false
set_option linter.unusedSimpArgs false
def spec_DoAll.f (k : Nat) (l0_0 : List (Int)) (l0_1 : List (S90)) (l0_2 : List (S93)) (l0_3 : List (S96)) (l1 : List (S61)) : Option Gots := (spec_l06Copy.f l0_0 l0_1 l0_2 l0_3).bind fun o => da0 spec_DoAct.f k l1 0 o.1 o.2.1 o.2.2.1 o.2.2.2 []
theorem spec_DoAll.tab6 : rtab .any (opsOf Tryz.f6 6) = TD := by kernel_rfl
set_option maxHeartbeats 8000000 in
set_option maxRecDepth 100000 in
theorem spec_DoAll.calls (k : Nat) (A0_0 : Option Addr) (c0_0 : Nat) (l0_0 : List (Int)) (A0_1 : Option Addr) (c0_1 : Nat) (l0_1 : List (S90)) (A0_2 : Option Addr) (c0_2 : Nat) (l0_2 : List (S93)) (A0_3 : Option Addr) (c0_3 : Nat) (l0_3 : List (S96)) (A1 : Option Addr) (c1 : Nat) (l1 : List (S61)) (r1 : List Int) (r2 : List (S90)) (r3 : List (S93)) (r4 : List (S96)) (r5 : List Int) (w : World) (hr0_0 : Kd.C (Kd.int .i64) w A0_0 l0_0.length l0_0) (hc0_0 : l0_0.length ≤ c0_0) (hr0_1 : Kd.C k90 w A0_1 l0_1.length l0_1) (hc0_1 : l0_1.length ≤ c0_1) (hr0_2 : Kd.C k93 w A0_2 l0_2.length l0_2) (hc0_2 : l0_2.length ≤ c0_2) (hr0_3 : Kd.C k96 w A0_3 l0_3.length l0_3) (hc0_3 : l0_3.length ≤ c0_3) (hr1 : Kd.C k61 w A1 l1.length l1) (hc1 : l1.length ≤ c1) (h : spec_DoAll.f k l0_0 l0_1 l0_2 l0_3 l1 = some (r1, r2, r3, r4, r5)) :
  Calls Tryz.prog 6 #[.agg #[.slice A0_0 l0_0.length c0_0, .slice A0_1 l0_1.length c0_1, .slice A0_2 l0_2.length c0_2, .slice A0_3 l0_3.length c0_3], .slice A1 l1.length c1] w fun e w' => ∃ v0_ v1_ v2_ v3_ v4_ : Value, e = .returned (.tuple #[.agg #[v0_, v1_, v2_, v3_], v4_]) ∧ Kd.R (Kd.int .i64) 3 w' w.heap.size (fun _ => True) v0_ r1 ∧ Kd.R k90 90 w' w.heap.size (fun _ => True) v1_ r2 ∧ Kd.R k93 93 w' w.heap.size (fun _ => True) v2_ r3 ∧ Kd.R k96 96 w' w.heap.size (fun _ => True) v3_ r4 ∧ Kd.R (Kd.int .i64) 3 w' w.heap.size (fun k => some k ≠ v0_.ownBlock) v4_ r5 ∧ Below w.heap.size w w' := by
 have hu35 := Tryz.underlying35
 have hu61 := Tryz.underlying61
 have HR0_0 := Aside0.mk hr0_0
 have HC0_0 := Aside0.mk hc0_0
 have HR0_1 := Aside0.mk hr0_1
 have HC0_1 := Aside0.mk hc0_1
 have HR0_2 := Aside0.mk hr0_2
 have HC0_2 := Aside0.mk hc0_2
 have HR0_3 := Aside0.mk hr0_3
 have HC0_3 := Aside0.mk hc0_3
 clear hr0_0 hc0_0 hr0_1 hc0_1 hr0_2 hc0_2 hr0_3 hc0_3
 have HR1 := Aside0.mk hr1
 have HC1 := Aside0.mk hc1
 have HB := Aside0.mk (Below.refl w.heap.size w)
 unfold spec_DoAll.f at h
 replace h := bind_o h
 obtain ⟨o, AN, h⟩ := h
 have H' := Aside0.mk h
 clear h hr1 hc1
 go_enter Tryz.func6, Tryz.ntmps6
 go_wp2_with (first
  | ((with_reducible refine gate_dst (N := 2) rfl ?_); refine bx_ (N := 2) ?_; intro g2 hg w1 hbox hb; replace HB := Aside0.mk (below_step HB.out hb); have BK2 := Aside0.mk hbox; clear hb hbox hg)
  | ((with_reducible refine gate_dst (N := 4) rfl ?_); refine bx_ (N := 4) ?_; intro g4 hg w1 hbox hb; have GE4 := Aside0.mk (Nat.le_trans HB.out.size (Nat.le_of_eq hg.symm)); replace HB := Aside0.mk (below_step HB.out hb); replace BK2 := Aside0.mk (blk_below BK2.out hb); have BK4 := Aside0.mk hbox; clear hb hbox hg; have hcz2 := bc4 BK2.out)
  | (go_at_call 23; refine (spec_l06Copy.calls _ _ l0_0 _ _ l0_1 _ _ l0_2 _ _ l0_3 o.1 o.2.1 o.2.2.1 o.2.2.2 _ (Kd.C_below HR0_0.out HB.out) HC0_0.out (Kd.C_below HR0_1.out HB.out) HC0_1.out (Kd.C_below HR0_2.out HB.out) HC0_2.out (Kd.C_below HR0_3.out HB.out) HC0_3.out AN.out).mono ?_; rintro e w' ⟨v0, v1, v2, v3, rfl, ho0, ho1, ho2, ho3, hb⟩; have RN := Aside0.mk (Rw.of (w := w) ho0 ho1 ho2 ho3 HB.out.size); replace BK4 := Aside0.mk (blk_below BK4.out hb); replace HB := Aside0.mk (below_step HB.out hb); clear ho0 ho1 ho2 ho3 hb BK2 hcz2; obtain ⟨N0, N1, N2, N3, n0, n1, n2, n3, rfl, rfl, rfl, rfl⟩ := RN.out.shape)
  | ((with_reducible refine gate_dst (N := 6) rfl ?_); refine al4_ (N := 6) RN.out.one ?_; intro g6 we hg hbox hb; have N46 := Aside0.mk (Nat.ne_of_lt (Nat.lt_of_lt_of_eq (blk_lt BK4.out) hg.symm)); have GE6 := Nat.le_trans HB.out.size (Nat.le_of_eq hg.symm); replace BK4 := Aside0.mk (blk_below BK4.out hb); replace HB := Aside0.mk (below_step HB.out hb); have ST := Aside0.mk ((RN.out.below hb).st hbox HB.out GE6); clear hb hbox hg GE6 RN HB)
  | ((with_reducible refine gate_dst (N := 13) rfl ?_); refine rl_ (Kd.int .i64) 3 (N := 13) ST.out.hb ?_; intro vc w1 ho hb; have CD := Aside0.mk (Kd.R_mono ho (ok' := fun k => some k ≠ (Value.slice N0 o.1.length n0).ownBlock) (fun k hk he => by have := Kd.R_lt ST.out.r0 k he.symm; have := hk.2; omega)); replace ST := Aside0.mk (ST.out.below hb); clear ho hb)
  )
 go_loopg [7, 8] k (fun kq v7 v8 w' => ∃ (c : List Int) (x : Int) (q0 : List Int) (q1 : List (S90)) (q2 : List (S93)) (q3 : List (S96)) (s0 s1 s2 s3 : Value), v8 = .int .i64 x ∧ Aside0 (da0 spec_DoAct.f kq l1 x q0 q1 q2 q3 c = some (r1, r2, r3, r4, r5)) ∧ Aside0 (kq ≤ k) ∧ Aside0 (St w we w' g6 s0 s1 s2 s3 q0 q1 q2 q3) ∧ Aside0 (Kd.R (Kd.int .i64) 3 w' w.heap.size (fun k => some k ≠ s0.ownBlock) v7 c))
 case atStart => exact ⟨[], 0, _, _, _, _, _, _, _, _, rfl, H', ⟨Nat.le_refl _⟩, ST, CD⟩
 case round =>
  clear H' ST CD AN
  obtain ⟨c, x, q0, q1, q2, q3, s0, s1, s2, s3, rfl, HA, HK1, ST, CD⟩ := hrel
  cases gk with
  | zero => exact absurd HA.out (by simp [da0])
  | succ k2 =>
   have H := HA.out
   clear HA
   simp only [da0] at H
   replace H := ite_lt H
   rcases H with ⟨d, H⟩ | ⟨d, H⟩
   rotate_left
   ·
    obtain ⟨rfl, rfl, rfl, rfl, rfl⟩ : _ ∧ _ ∧ _ ∧ _ ∧ _ := by simpa only [Option.some.injEq, Prod.mk.injEq] using H
    obtain ⟨S0, S1, S2, S3, f0, f1, f2, f3, rfl, rfl, rfl, rfl⟩ := ST.out.shape
    replace BK4 := Aside0.mk (ST.out.fr _ _ _ N46.out BK4.out (by decide))
    have hcz6 := bc4 ST.out.blk
    have hcz4 := bc4 BK4.out
    go_wp2
    (try simp only [Exit.inBlock, Exit.then])
    refine bodyPost_ret (results_ct rfl _ _ g4 35 _ (0, 0) _ rfl (bpa4 BK4.out) hu35 rfl rfl) rfl ?_
    exact ⟨_, _, _, _, _, rfl, R_tow4 ST.out.r0 BK4.out (by decide), R_tow4 ST.out.r1 BK4.out (by decide), R_tow4 ST.out.r2 BK4.out (by decide), R_tow4 ST.out.r3 BK4.out (by decide), R_tow4 CD.out BK4.out (by decide), below_set (below_set (below_set (below_set ST.out.hb GE4.out) GE4.out) GE4.out) GE4.out⟩
   replace H := ite_le H
   rcases H with ⟨d', H⟩ | ⟨d', H⟩
   rotate_left
   · exact none_o H
   replace H := bind_o H
   obtain ⟨r, AD, H⟩ := H
   (try dsimp only at H)
   by_cases hcl : c.length < 17592186044416
   rotate_left
   · rw [if_neg hcl] at H
     exact none_o H
   rw [if_pos hcl] at H
   replace AD := Aside0.mk (show spec_DoAct.f k2 q0 q1 q2 q3 _ _ _ _ _ _ _ _ _ _ = some r from AD.out)
   have HCL := Aside0.mk hcl
   have H' := Aside0.mk H
   clear H hcl
   have hl := of_decide_eq_true d
   have hl' := of_decide_eq_true d'
   obtain ⟨ad, A3, c3, e, hx0, hx1, hx2, hx3, hx4, hx5, hx6, hx7, hx8, hx9, hl3, hi3⟩ := at_T61 (Kd.C_below HR1.out ST.out.hb) x hl' hl
   cases e
   replace hi3 := Aside0.mk hi3
   replace hl3 := Aside0.mk hl3
   have p := eqt d
   have p' := eqt d'
   obtain ⟨S0, S1, S2, S3, f0, f1, f2, f3, rfl, rfl, rfl, rfl⟩ := ST.out.shape
   clear hl hl'
   go_wp2
   refine startf_ (F := fun W => Below wr.heap.size wr W) (Below.refl _ _) (fun W h => below_drew h) (fun w_ hHeld => ?_)
   refine with_tab spec_DoAll.tab6 (fun HT_ => ?_)
   repeat (first | refine us_ ?_ | refine ps_ ?_ | refine ts_ hHeld ?_ (hc := take_of HT_.out (by kernel_rfl)) (hv := by intro w_ hs; have hc6_ := bc4 (blk_below ST.out.blk hs); have hy0 := cb_ ⟨hs⟩ hx0; have hy1 := cb_ ⟨hs⟩ hx1; have hy2 := cb_ ⟨hs⟩ hx2; have hy3 := cb_ ⟨hs⟩ hx3; have hy4 := cb_ ⟨hs⟩ hx4; have hy5 := cb_ ⟨hs⟩ hx5; have hy6 := cb_ ⟨hs⟩ hx6; have hy7 := cb_ ⟨hs⟩ hx7; have hy8 := cb_ ⟨hs⟩ hx8; have hy9 := cb_ ⟨hs⟩ hx9; go_simp; with_reducible rfl))
   refine reg12_ (R3 := fun s0 s1 s2 s3 y W => y = .int .i64 r.2.2.2.2 ∧ ∃ lo hi, wr.heap.size ≤ lo ∧ Rw w W lo hi s0 s1 s2 s3 r.1 r.2.1 r.2.2.1 r.2.2.2.1) hHeld ?hc ?hm3 ?hm4 ?hQ
   case hc =>
    intro W hW
    have HBW := below_step ST.out.hb hW
    refine (spec_DoAct.calls k2 _ _ q0 _ _ q1 _ _ q2 _ _ q3 _ _ _ _ _ _ _ _ _ _ _ _ r.1 r.2.1 r.2.2.1 r.2.2.2.1 r.2.2.2.2 _  (Kd.R_reads' (ST.out.below hW).r0).2.2 (Kd.R_reads' (ST.out.below hW).r0).2.1 (Kd.R_reads' (ST.out.below hW).r1).2.2 (Kd.R_reads' (ST.out.below hW).r1).2.1 (Kd.R_reads' (ST.out.below hW).r2).2.2 (Kd.R_reads' (ST.out.below hW).r2).2.1 (Kd.R_reads' (ST.out.below hW).r3).2.2 (Kd.R_reads' (ST.out.below hW).r3).2.1 (Kd.C_below hi3.out hW) hl3.out AD.out).mono ?_
    rintro e w' ⟨v0, v1, v2, v3, rfl, ho0, ho1, ho2, ho3, hb⟩
    have hr := Rw.of (w := w) ho0 ho1 ho2 ho3 HBW.size
    exact ⟨_, _, _, _, _, rfl, hr.one, ⟨rfl, _, _, hW.size, hr⟩, hb⟩
   case hm3 =>
    rintro s0 s1 s2 s3 y W W' ⟨rfl, lo, hi, hl, h⟩ hb
    exact ⟨rfl, lo, hi, hl, h.below hb⟩
   case hm4 =>
    rintro s0 s1 s2 s3 y W g cs ⟨rfl, lo, hi, hl, h⟩ hg
    exact ⟨rfl, lo, hi, hl, h.sets hg⟩
   rintro v0 v1 v2 v3 y g9 wd ⟨rfl, lo, hi, hl, hR⟩ hg _ hb
   have LO := Aside0.mk hl
   have RD := Aside0.mk hR
   have BKg := Aside0.mk hg
   replace CD := Aside0.mk (Kd.R_below (Kd.R_mono (ok' := fun k => k < wr.heap.size) (Kd.R_bound CD.out) (fun k hk => hk.2.2.1)) hb)
   replace ST := Aside0.mk (ST.out.below hb)
   clear hR hl hg hb hHeld HT_ AD hx0 hx1 hx2 hx3 hx4 hx5 hx6 hx7 hx8 hx9 hi3 hl3
   have hcz6 := bc4 ST.out.blk
   simp only [Act.put, List.setIfInBounds_toArray, List.set_cons_zero, List.set_cons_succ]
   obtain ⟨V0, V1, V2, V3, e0, e1, e2, e3, rfl, rfl, rfl, rfl⟩ := RD.out.shape
   have hczg := bc4 BKg.out
   go_wp2_with (first
    | ((with_reducible refine gate_no rfl ?_); refine stw_ ST.out.blk ⟨rfl, rfl, rfl, rfl⟩ ?_; intro w1 hw; replace CD := Aside0.mk (Kd.R_mono (R_sets4 (o := 0) (seg := [.slice V0 r.1.length e0, .slice V1 r.2.1.length e1, .slice V2 r.2.2.1.length e2, .slice V3 r.2.2.2.1.length e3]) CD.out ST.out.blk (by decide)) (ok' := fun k => some k ≠ (Value.slice V0 r.1.length e0).ownBlock) (fun k hk he => by have h1_ := (RD.out.r0.1 k he.symm).1; have h2_ := LO.out; have h3_ : k < _ := hk; omega)); replace ST := Aside0.mk (ST.out.all RD.out); rw [← hw] at ST CD; clear hw RD BKg hczg)
    | (at_builtin; refine apk_ (d := Kd.int .i64) (p := r.2.2.2.2) (cs := [.int .i64 r.2.2.2.2]) rfl Tryz.underlying22 info3 CD.out (fun k hk he => by have := Kd.R_lt ST.out.r0 k he.symm; omega) ST.out.hb ST.out.hb.size (by have := HCL.out; omega) ?_; intro v1 w1 ho hb hg; replace ST := Aside0.mk (ST.out.app CD.out hg hb); replace CD := Aside0.mk ho; clear ho hb hg)
    )
   go_roundg k2
   case measure => have := HK1.out; omega
   case rel => exact ⟨_, _, _, _, _, _, _, _, _, _, rfl, H', ⟨by have := HK1.out; omega⟩, ST, CD⟩
end Go.Proofs.YtbanogkoaplcdaaGreat.QDa
