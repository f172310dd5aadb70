/- Parts of the proof of FnExactDoAll, one behind the other. No condition. -/
import Derived.Test.YtbanogkoaplcdaaGreatVFnExactDoAllM17
import Derived.Test.YtbanogkoaplcdaaGreatVFnExactDoAllM47
namespace Go.Proofs.YtbanogkoaplcdaaGreat.QDa
open Go.RowKit Go.Proofs.YtbanogkoaplcdaaGreat.Reg14 Go.Proofs.YtbanogkoaplcdaaGreat.Reg13 Go.Proofs.YtbanogkoaplcdaaGreat.Reg12 Go.Proofs.YtbanogkoaplcdaaGreat.Reg11 Go.Proofs.YtbanogkoaplcdaaGreat.Reg10 Go.Proofs.YtbanogkoaplcdaaGreat.Reg9 Go.Proofs.YtbanogkoaplcdaaGreat.Lock Go.Proofs.YtbanogkoaplcdaaGreat.Auto Go.Proofs.YtbanogkoaplcdaaGreat.Short Go.Proofs.YtbanogkoaplcdaaGreatW.PrintWords Go.Proofs.YtbanogkoaplcdaaGreatW.PrintLast Go.Proofs.YtbanogkoaplcdaaGreatW.PrintMore
set_option linter.unusedVariables false
set_option linter.unusedSimpArgs false
def impl_DoAll.f (k : Nat) (l0_0 : List (Int)) (l0_1 : List (S90)) (l0_2 : List (S93)) (l0_3 : List (S96)) (l1 : List (S61)) : Option Gots := (impl_copyState.f l0_0 l0_1 l0_2 l0_3).bind fun o => da0 impl_DoAct.f k l1 0 o.1 o.2.1 o.2.2.1 o.2.2.2 []
set_option maxHeartbeats 8000000 in
set_option maxRecDepth 100000 in
theorem impl_DoAll.calls (k : Nat) (A0_0 : Option Addr) (c0_0 : Nat) (l0_0 : List (Int)) (A0_1 : Option Addr) (c0_1 : Nat) (l0_1 : List (S90)) (A0_2 : Option Addr) (c0_2 : Nat) (l0_2 : List (S93)) (A0_3 : Option Addr) (c0_3 : Nat) (l0_3 : List (S96)) (A1 : Option Addr) (c1 : Nat) (l1 : List (S61)) (r1 : List Int) (r2 : List (S90)) (r3 : List (S93)) (r4 : List (S96)) (r5 : List Int) (w : World) (hr0_0 : Kd.C (Kd.int .i64) w A0_0 l0_0.length l0_0) (hc0_0 : l0_0.length ≤ c0_0) (hr0_1 : Kd.C k90 w A0_1 l0_1.length l0_1) (hc0_1 : l0_1.length ≤ c0_1) (hr0_2 : Kd.C k93 w A0_2 l0_2.length l0_2) (hc0_2 : l0_2.length ≤ c0_2) (hr0_3 : Kd.C k96 w A0_3 l0_3.length l0_3) (hc0_3 : l0_3.length ≤ c0_3) (hr1 : Kd.C k61 w A1 l1.length l1) (hc1 : l1.length ≤ c1) (h : impl_DoAll.f k l0_0 l0_1 l0_2 l0_3 l1 = some (r1, r2, r3, r4, r5)) :
  Calls Tryz.prog 9 #[.agg #[.slice A0_0 l0_0.length c0_0, .slice A0_1 l0_1.length c0_1, .slice A0_2 l0_2.length c0_2, .slice A0_3 l0_3.length c0_3], .slice A1 l1.length c1] w fun e w' => ∃ v0_ v1_ v2_ v3_ v4_ : Value, e = .returned (.tuple #[.agg #[v0_, v1_, v2_, v3_], v4_]) ∧ Kd.R (Kd.int .i64) 3 w' w.heap.size (fun _ => True) v0_ r1 ∧ Kd.R k90 90 w' w.heap.size (fun _ => True) v1_ r2 ∧ Kd.R k93 93 w' w.heap.size (fun _ => True) v2_ r3 ∧ Kd.R k96 96 w' w.heap.size (fun _ => True) v3_ r4 ∧ Kd.R (Kd.int .i64) 3 w' w.heap.size (fun k => some k ≠ v0_.ownBlock) v4_ r5 ∧ Below w.heap.size w w' := by
 have hu35 := Tryz.underlying35
 have hu61 := Tryz.underlying61
 have HR0_0 := Aside0.mk hr0_0
 have HC0_0 := Aside0.mk hc0_0
 have HR0_1 := Aside0.mk hr0_1
 have HC0_1 := Aside0.mk hc0_1
 have HR0_2 := Aside0.mk hr0_2
 have HC0_2 := Aside0.mk hc0_2
 have HR0_3 := Aside0.mk hr0_3
 have HC0_3 := Aside0.mk hc0_3
 clear hr0_0 hc0_0 hr0_1 hc0_1 hr0_2 hc0_2 hr0_3 hc0_3
 have HR1 := Aside0.mk hr1
 have HC1 := Aside0.mk hc1
 have HB := Aside0.mk (Below.refl w.heap.size w)
 unfold impl_DoAll.f at h
 replace h := bind_o h
 obtain ⟨o, AN, h⟩ := h
 have H' := Aside0.mk h
 clear h hr1 hc1
 go_enter Tryz.func9, Tryz.ntmps9
 go_wp2_with (first
  | ((with_reducible refine gate_dst (N := 2) rfl ?_); refine bx_ (N := 2) ?_; intro g2 hg w1 hbox hb; replace HB := Aside0.mk (below_step HB.out hb); have BK2 := Aside0.mk hbox; clear hb hbox hg)
  | ((with_reducible refine gate_dst (N := 4) rfl ?_); refine bx_ (N := 4) ?_; intro g4 hg w1 hbox hb; have GE4 := Aside0.mk (Nat.le_trans HB.out.size (Nat.le_of_eq hg.symm)); replace HB := Aside0.mk (below_step HB.out hb); replace BK2 := Aside0.mk (blk_below BK2.out hb); have BK4 := Aside0.mk hbox; clear hb hbox hg; have hcz2 := bc4 BK2.out)
  | (go_at_call 30; refine (impl_copyState.calls _ _ l0_0 _ _ l0_1 _ _ l0_2 _ _ l0_3 o.1 o.2.1 o.2.2.1 o.2.2.2 _ (Kd.C_below HR0_0.out HB.out) HC0_0.out (Kd.C_below HR0_1.out HB.out) HC0_1.out (Kd.C_below HR0_2.out HB.out) HC0_2.out (Kd.C_below HR0_3.out HB.out) HC0_3.out AN.out).mono ?_; rintro e w' ⟨v0, v1, v2, v3, rfl, ho0, ho1, ho2, ho3, hb⟩; have RN := Aside0.mk (Rw.of (w := w) ho0 ho1 ho2 ho3 HB.out.size); replace BK4 := Aside0.mk (blk_below BK4.out hb); replace HB := Aside0.mk (below_step HB.out hb); clear ho0 ho1 ho2 ho3 hb BK2 hcz2; obtain ⟨N0, N1, N2, N3, n0, n1, n2, n3, rfl, rfl, rfl, rfl⟩ := RN.out.shape)
  | ((with_reducible refine gate_dst (N := 6) rfl ?_); refine al4_ (N := 6) RN.out.one ?_; intro g6 we hg hbox hb; have N46 := Aside0.mk (Nat.ne_of_lt (Nat.lt_of_lt_of_eq (blk_lt BK4.out) hg.symm)); have GE6 := Nat.le_trans HB.out.size (Nat.le_of_eq hg.symm); replace BK4 := Aside0.mk (blk_below BK4.out hb); replace HB := Aside0.mk (below_step HB.out hb); have ST := Aside0.mk ((RN.out.below hb).st hbox HB.out GE6); clear hb hbox hg GE6 RN HB)
  | ((with_reducible refine gate_dst (N := 14) rfl ?_); refine rl_ (Kd.int .i64) 3 (N := 14) ST.out.hb ?_; intro vc w1 ho hb; have CD := Aside0.mk (Kd.R_mono ho (ok' := fun k => some k ≠ (Value.slice N0 o.1.length n0).ownBlock) (fun k hk he => by have := Kd.R_lt ST.out.r0 k he.symm; have := hk.2; omega)); replace ST := Aside0.mk (ST.out.below hb); clear ho hb)
  )
 go_loopg [7, 17] k (fun kq v7 v8 w' => ∃ (c : List Int) (x : Int) (q0 : List Int) (q1 : List (S90)) (q2 : List (S93)) (q3 : List (S96)) (s0 s1 s2 s3 : Value), v8 = .int .i64 x ∧ Aside0 (da0 impl_DoAct.f kq l1 x q0 q1 q2 q3 c = some (r1, r2, r3, r4, r5)) ∧ Aside0 (kq ≤ k) ∧ Aside0 (St w we w' g6 s0 s1 s2 s3 q0 q1 q2 q3) ∧ Aside0 (Kd.R (Kd.int .i64) 3 w' w.heap.size (fun k => some k ≠ s0.ownBlock) v7 c))
 case atStart => exact ⟨[], 0, _, _, _, _, _, _, _, _, rfl, H', ⟨Nat.le_refl _⟩, ST, CD⟩
 case round =>
  clear H' ST CD AN
  obtain ⟨c, x, q0, q1, q2, q3, s0, s1, s2, s3, rfl, HA, HK1, ST, CD⟩ := hrel
  cases gk with
  | zero => exact absurd HA.out (by simp [da0])
  | succ k2 =>
   have H := HA.out
   clear HA
   simp only [da0] at H
   replace H := ite_lt H
   rcases H with ⟨d, H⟩ | ⟨d, H⟩
   rotate_left
   ·
    obtain ⟨rfl, rfl, rfl, rfl, rfl⟩ : _ ∧ _ ∧ _ ∧ _ ∧ _ := by simpa only [Option.some.injEq, Prod.mk.injEq] using H
    obtain ⟨S0, S1, S2, S3, f0, f1, f2, f3, rfl, rfl, rfl, rfl⟩ := ST.out.shape
    replace BK4 := Aside0.mk (ST.out.fr _ _ _ N46.out BK4.out (by decide))
    have hcz6 := bc4 ST.out.blk
    have hcz4 := bc4 BK4.out
    go_wp2
    (try simp only [Exit.inBlock, Exit.then])
    refine bodyPost_ret (results_ct rfl _ _ g4 35 _ (0, 0) _ rfl (bpa4 BK4.out) hu35 rfl rfl) rfl ?_
    exact ⟨_, _, _, _, _, rfl, R_tow4 ST.out.r0 BK4.out (by decide), R_tow4 ST.out.r1 BK4.out (by decide), R_tow4 ST.out.r2 BK4.out (by decide), R_tow4 ST.out.r3 BK4.out (by decide), R_tow4 CD.out BK4.out (by decide), below_set (below_set (below_set (below_set ST.out.hb GE4.out) GE4.out) GE4.out) GE4.out⟩
   replace H := ite_le H
   rcases H with ⟨d', H⟩ | ⟨d', H⟩
   rotate_left
   · exact none_o H
   replace H := bind_o H
   obtain ⟨r, AD, H⟩ := H
   (try dsimp only at H)
   by_cases hcl : c.length < 17592186044416
   rotate_left
   · rw [if_neg hcl] at H
     exact none_o H
   rw [if_pos hcl] at H
   replace AD := Aside0.mk (show impl_DoAct.f k2 q0 q1 q2 q3 _ _ _ _ _ _ _ _ _ _ = some r from AD.out)
   have HCL := Aside0.mk hcl
   have H' := Aside0.mk H
   clear H hcl
   have hl := of_decide_eq_true d
   have hl' := of_decide_eq_true d'
   obtain ⟨ad, A3, c3, e, hx0, hx1, hx2, hx3, hx4, hx5, hx6, hx7, hx8, hx9, hl3, hi3⟩ := at_T61 (Kd.C_below HR1.out ST.out.hb) x hl' hl
   cases e
   replace hi3 := Aside0.mk hi3
   replace hl3 := Aside0.mk hl3
   have p := eqt d
   have p' := eqt d'
   obtain ⟨S0, S1, S2, S3, f0, f1, f2, f3, rfl, rfl, rfl, rfl⟩ := ST.out.shape
   clear hl hl'
   have hcz6 := bc4 ST.out.blk
   go_wp2_with (first
    | ((with_reducible refine gate_dst (N := 9) rfl ?_); refine al10_ (N := 9) rfl ?_; intro g9 w1 hg hbox hb; have BK9 := Aside0.mk hbox; replace ST := Aside0.mk (ST.out.below hb); replace CD := Aside0.mk (Kd.R_below CD.out hb); replace hi3 := Aside0.mk (Kd.C_below hi3.out hb); clear hg hbox hb hcz6 hx0 hx1 hx2 hx3 hx4 hx5 hx6 hx7 hx8 hx9; have hcz6 := bc4 ST.out.blk; have hcz9 := bc10 BK9.out)
    | (go_at_call 31; refine (impl_DoAct.calls k2 _ _ q0 _ _ q1 _ _ q2 _ _ q3 _ _ _ _ _ _ _ _ _ _ _ _ r.1 r.2.1 r.2.2.1 r.2.2.2.1 r.2.2.2.2 _  (Kd.R_reads' ST.out.r0).2.2 (Kd.R_reads' ST.out.r0).2.1 (Kd.R_reads' ST.out.r1).2.2 (Kd.R_reads' ST.out.r1).2.1 (Kd.R_reads' ST.out.r2).2.2 (Kd.R_reads' ST.out.r2).2.1 (Kd.R_reads' ST.out.r3).2.2 (Kd.R_reads' ST.out.r3).2.1 hi3.out hl3.out AD.out).mono ?_; rintro e w' ⟨v0, v1, v2, v3, rfl, ho0, ho1, ho2, ho3, hb⟩; have RD := Aside0.mk (Rw.of (w := w) ho0 ho1 ho2 ho3 ST.out.hb.size); replace CD := Aside0.mk (Kd.R_below (Kd.R_mono (ok' := fun k => k < _) (Kd.R_bound CD.out) (fun k hk => hk.2.2.1)) hb); have LO := Aside0.mk (Nat.le_refl w'.heap.size); replace ST := Aside0.mk (ST.out.below hb); clear ho0 ho1 ho2 ho3 hb hcz6 hcz9 BK9 hi3 hl3; have hcz6 := bc4 ST.out.blk)
    | ((with_reducible refine gate_dst (N := 10) rfl ?_); refine al4_ (N := 10) RD.out.one ?_; intro g10 w1 hg hbox hb; have BKg := Aside0.mk hbox; replace RD := Aside0.mk (RD.out.below hb); replace ST := Aside0.mk (ST.out.below hb); replace CD := Aside0.mk (Kd.R_below CD.out hb); clear hg hbox hb hcz6; have hcz6 := bc4 ST.out.blk; refine Aside0.out ?_)
    )
   refine ⟨?_⟩
   obtain ⟨V0, V1, V2, V3, e0, e1, e2, e3, rfl, rfl, rfl, rfl⟩ := RD.out.shape
   have hczg := bc4 BKg.out
   go_wp2_with (first
    | ((with_reducible refine gate_no rfl ?_); refine stw_ ST.out.blk ⟨rfl, rfl, rfl, rfl⟩ ?_; intro w1 hw; replace CD := Aside0.mk (Kd.R_mono (R_sets4 (o := 0) (seg := [.slice V0 r.1.length e0, .slice V1 r.2.1.length e1, .slice V2 r.2.2.1.length e2, .slice V3 r.2.2.2.1.length e3]) CD.out ST.out.blk (by decide)) (ok' := fun k => some k ≠ (Value.slice V0 r.1.length e0).ownBlock) (fun k hk he => by have h1_ := (RD.out.r0.1 k he.symm).1; have h2_ := LO.out; have h3_ : k < _ := hk; omega)); replace ST := Aside0.mk (ST.out.all RD.out); rw [← hw] at ST CD; clear hw RD BKg hczg)
    | (at_builtin; refine apk_ (d := Kd.int .i64) (p := r.2.2.2.2) (cs := [.int .i64 r.2.2.2.2]) rfl Tryz.underlying22 info3 CD.out (fun k hk he => by have := Kd.R_lt ST.out.r0 k he.symm; omega) ST.out.hb ST.out.hb.size (by have := HCL.out; omega) ?_; intro v1 w1 ho hb hg; replace ST := Aside0.mk (ST.out.app CD.out hg hb); replace CD := Aside0.mk ho; clear ho hb hg)
    )
   go_roundg k2
   case measure => have := HK1.out; omega
   case rel => exact ⟨_, _, _, _, _, _, _, _, _, _, rfl, H', ⟨by have := HK1.out; omega⟩, ST, CD⟩
end Go.Proofs.YtbanogkoaplcdaaGreat.QDa
namespace Go.Proofs.YtbanogkoaplcdaaGreat.QDa
open Go.RowKit Go.Proofs.YtbanogkoaplcdaaGreat.Reg11 Go.Proofs.YtbanogkoaplcdaaGreat.Reg10 Go.Proofs.YtbanogkoaplcdaaGreat.Reg9 Go.Proofs.YtbanogkoaplcdaaGreat.Lock Go.Proofs.YtbanogkoaplcdaaGreat.Auto Go.Proofs.YtbanogkoaplcdaaGreat.Short Go.Proofs.YtbanogkoaplcdaaGreatW.PrintWords Go.Proofs.YtbanogkoaplcdaaGreatW.PrintLast Go.Proofs.YtbanogkoaplcdaaGreatW.PrintMore
set_option linter.unusedVariables false
structure Rc (w W : World) (lo hi : Nat) (s0 s1 s2 s3 vc : Value) (l0 : List Int) (l1 : List S90) (l2 : List S93) (l3 : List S96) (c : List Int) : Prop where
  rw : Rw w W lo hi s0 s1 s2 s3 l0 l1 l2 l3
  cd : Kd.R (Kd.int .i64) 3 W w.heap.size (fun k => lo ≤ k ∧ k < hi) vc c
  ap : ∀ k, vc.ownBlock = some k → some k ≠ s0.ownBlock
namespace Rc
variable {w W W' : World} {lo hi : Nat} {s0 s1 s2 s3 vc : Value} {l0 l0' c c' : List Int} {l1 l1' : List S90} {l2 l2' : List S93} {l3 l3' : List S96}
theorem of {Wc : World} (h0 : Kd.R (Kd.int .i64) 3 W Wc.heap.size (fun _ => True) s0 l0) (h1 : Kd.R k90 90 W Wc.heap.size (fun _ => True) s1 l1) (h2 : Kd.R k93 93 W Wc.heap.size (fun _ => True) s2 l2) (h3 : Kd.R k96 96 W Wc.heap.size (fun _ => True) s3 l3) (h4 : Kd.R (Kd.int .i64) 3 W Wc.heap.size (fun k => some k ≠ s0.ownBlock) vc c) (hw : w.heap.size ≤ Wc.heap.size) : Rc w W Wc.heap.size W.heap.size s0 s1 s2 s3 vc l0 l1 l2 l3 c := ⟨Rw.of h0 h1 h2 h3 hw, rowI (Kd.R_mono h4 (fun _ _ => trivial)) hw, h4.1⟩
theorem below (h : Rc w W lo hi s0 s1 s2 s3 vc l0 l1 l2 l3 c) (hb : Below W.heap.size W W') : Rc w W' lo hi s0 s1 s2 s3 vc l0 l1 l2 l3 c := ⟨h.rw.below hb, Kd.R_below h.cd hb, h.ap⟩
theorem kept {T : Nat → Prop} (h : Rc w W lo hi s0 s1 s2 s3 vc l0 l1 l2 l3 c) (hk : Kept W W' T) (hT : ∀ k, T k → k < lo ∨ hi ≤ k) : Rc w W' lo hi s0 s1 s2 s3 vc l0 l1 l2 l3 c := ⟨h.rw.kept hk hT, Kd.R_kept h.cd hk (fun k hk ht => by have := hT k ht; omega), h.ap⟩
theorem markS {o0 o1 o2 o3 : Nat → Prop} (h : Rc w W lo hi s0 s1 s2 s3 vc l0 l1 l2 l3 c) (hK : Kept W W' (Rw.S s0 s1 s2 s3)) (h0 : Kd.R (Kd.int .i64) 3 W' w.heap.size o0 s0 l0') (h1 : Kd.R k90 90 W' w.heap.size o1 s1 l1') (h2 : Kd.R k93 93 W' w.heap.size o2 s2 l2') (h3 : Kd.R k96 96 W' w.heap.size o3 s3 l3') : Rc w W' lo hi s0 s1 s2 s3 vc l0' l1' l2' l3' c := by
  refine ⟨h.rw.marked hK.1 h0 h1 h2 h3, Kd.R_reok rfl (Kd.R_kept (Kd.R_tight rfl h.cd) hK (fun k hk hs => ?_)) h.cd.1, h.ap⟩
  obtain ⟨cs, hc⟩ := Kd.R_typed h.cd k hk.symm
  rcases hs with hs | hs | hs | hs
  · exact h.ap k hk.symm hs
  · exact Kd.R_ne h.rw.r1 hc (by decide) hs
  · exact Kd.R_ne h.rw.r2 hc (by decide) hs
  · exact Kd.R_ne h.rw.r3 hc (by decide) hs
theorem markC {o : Nat → Prop} (h : Rc w W lo hi s0 s1 s2 s3 vc l0 l1 l2 l3 c) (hK : Kept W W' (fun k => some k = vc.ownBlock)) (hc : Kd.R (Kd.int .i64) 3 W' w.heap.size o vc c') : Rc w W' lo hi s0 s1 s2 s3 vc l0 l1 l2 l3 c' := by
  have ty : ∀ k, some k = vc.ownBlock → ∃ cs, W.heap[k]? = some (.cells cs 3 (0, 0)) := fun k hk => Kd.R_typed h.cd k hk.symm
  refine ⟨⟨Kd.R_reok rfl (Kd.R_kept (Kd.R_tight rfl h.rw.r0) hK (fun k hk hs => h.ap k hs.symm hk)) h.rw.r0.1, Kd.R_reok rfl (Kd.R_kept (Kd.R_tight rfl h.rw.r1) hK (fun k hk hs => ?_)) h.rw.r1.1, Kd.R_reok rfl (Kd.R_kept (Kd.R_tight rfl h.rw.r2) hK (fun k hk hs => ?_)) h.rw.r2.1, Kd.R_reok rfl (Kd.R_kept (Kd.R_tight rfl h.rw.r3) hK (fun k hk hs => ?_)) h.rw.r3.1, Nat.le_trans h.rw.le hK.1⟩, Kd.R_reok rfl hc h.cd.1, h.ap⟩
  · obtain ⟨cs, hc⟩ := ty k hs
    exact Kd.R_ne h.rw.r1 hc (by decide) hk
  · obtain ⟨cs, hc⟩ := ty k hs
    exact Kd.R_ne h.rw.r2 hc (by decide) hk
  · obtain ⟨cs, hc⟩ := ty k hs
    exact Kd.R_ne h.rw.r3 hc (by decide) hk
end Rc
end Go.Proofs.YtbanogkoaplcdaaGreat.QDa
