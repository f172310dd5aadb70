/- Parts of the proof of FnExactSettled, one behind the other. No condition. -/
import Derived.Test.YtbanogkoaplcdaaVFnExactSettledM14
import Derived.Test.YtbanogkoaplcdaaVFnExactSettledM28
namespace Go.Proofs.Ytbanogkoaplcdaa.QSe
open Go.RowKit Go.Proofs.Ytbanogkoaplcdaa.Reg13 Go.Proofs.Ytbanogkoaplcdaa.Reg12 Go.Proofs.Ytbanogkoaplcdaa.Reg11 Go.Proofs.Ytbanogkoaplcdaa.Reg10 Go.Proofs.Ytbanogkoaplcdaa.Reg9 Go.Proofs.Ytbanogkoaplcdaa.Lock Go.Proofs.Ytbanogkoaplcdaa.Auto Go.Proofs.Ytbanogkoaplcdaa.Short Go.Proofs.YtbanogkoaplcdaaW.PrintWords Go.Proofs.YtbanogkoaplcdaaW.PrintLast Go.Proofs.YtbanogkoaplcdaaW.PrintMore
set_option linter.unusedVariables false
set_option linter.unusedSimpArgs false
def spec_Settled.f (k : Nat) (l0 : List (S51)) : Option Got := (spec_StateNew.f).bind fun o => se0 spec_DoAct.f k l0 0 true o.1 o.2.1 o.2.2.1 o.2.2.2
def spec_Settled.T9 : Bool × List (List Nat × List Nat) := TD
theorem spec_Settled.tab9 : rtab .any (opsOf Try.f28 9) = spec_Settled.T9 := by kernel_rfl
set_option maxHeartbeats 8000000 in
set_option maxRecDepth 100000 in
theorem spec_Settled.calls (k : Nat) (A0 : Option Addr) (c0 : Nat) (l0 : List (S51)) (r1 : List Int) (r2 : List (S84)) (r3 : List (S86)) (r4 : List (S73)) (r5 : Int) (w : World) (hr0 : Kd.C k51 w A0 l0.length l0) (hc0 : l0.length ≤ c0) (h : spec_Settled.f k l0 = some (r1, r2, r3, r4, r5)) :
  Calls Try.prog 28 #[.slice A0 l0.length c0] w fun e w' => ∃ v0_ v1_ v2_ v3_ : Value, e = .returned (.tuple #[.agg #[v0_, v1_, v2_, v3_], .int .i64 r5]) ∧ Kd.R (Kd.int .i64) 3 w' w.heap.size (fun _ => True) v0_ r1 ∧ Kd.R k84 84 w' w.heap.size (fun _ => True) v1_ r2 ∧ Kd.R k86 86 w' w.heap.size (fun _ => True) v2_ r3 ∧ Kd.R k73 73 w' w.heap.size (fun _ => True) v3_ r4 ∧ Below w.heap.size w w' := by
 have hu36 := Try.underlying36
 have hu51 := Try.underlying51
 have HR0 := Aside0.mk hr0
 have HC0 := Aside0.mk hc0
 have HB := Aside0.mk (Below.refl w.heap.size w)
 unfold spec_Settled.f at h
 replace h := bind_o h
 obtain ⟨o, AN, h⟩ := h
 have H' := Aside0.mk h
 clear h hr0 hc0
 go_enter Try.func28, Try.ntmps28
 go_wp2_with (first
  | ((with_reducible refine gate_dst (N := 2) rfl ?_); refine bx_ (N := 2) ?_; intro g2 hg w1 hbox hb; have GE2 := Aside0.mk (Nat.le_trans HB.out.size (Nat.le_of_eq hg.symm)); replace HB := Aside0.mk (below_step HB.out hb); have BK2 := Aside0.mk hbox; clear hb hbox hg)
  | (go_at_call 87; refine (spec_StateNew.calls o.1 o.2.1 o.2.2.1 o.2.2.2 _ AN.out).mono ?_; rintro e w' ⟨v0, v1, v2, v3, rfl, ho0, ho1, ho2, ho3, hb⟩; have RN := Aside0.mk (Rw.of (w := w) ho0 ho1 ho2 ho3 HB.out.size); replace BK2 := Aside0.mk (blk_below BK2.out hb); replace HB := Aside0.mk (below_step HB.out hb); clear ho0 ho1 ho2 ho3 hb; obtain ⟨N0, N1, N2, N3, n0, n1, n2, n3, rfl, rfl, rfl, rfl⟩ := RN.out.shape)
  | ((with_reducible refine gate_dst (N := 4) rfl ?_); refine al4_ (N := 4) RN.out.one ?_; intro g4 we hg hbox hb; have N24 := Aside0.mk (Nat.ne_of_lt (Nat.lt_of_lt_of_eq (blk_lt BK2.out) hg.symm)); have GE4 := Nat.le_trans HB.out.size (Nat.le_of_eq hg.symm); replace BK2 := Aside0.mk (blk_below BK2.out hb); replace HB := Aside0.mk (below_step HB.out hb); have ST := Aside0.mk ((RN.out.below hb).st hbox HB.out GE4); clear hb hbox hg GE4 RN HB)
  )
 go_loopg [5, 6] k (fun kq v5 v6 w' => ∃ (n : Int) (b : Bool) (q0 : List Int) (q1 : List (S84)) (q2 : List (S86)) (q3 : List (S73)) (s0 s1 s2 s3 : Value), v5 = .int .i64 n ∧ v6 = .bool b ∧ Aside0 (se0 spec_DoAct.f kq l0 n b q0 q1 q2 q3 = some (r1, r2, r3, r4, r5)) ∧ Aside0 (kq ≤ k) ∧ Aside0 (St w we w' g4 s0 s1 s2 s3 q0 q1 q2 q3))
 case atStart => exact ⟨0, true, _, _, _, _, _, _, _, _, rfl, rfl, H', ⟨Nat.le_refl _⟩, ST⟩
 case round =>
  clear H' ST AN
  obtain ⟨n, b, q0, q1, q2, q3, s0, s1, s2, s3, rfl, rfl, HA, HK1, ST⟩ := hrel
  cases gk with
  | zero => exact absurd HA.out (by simp [se0])
  | succ k1 =>
   have H := HA.out
   clear HA
   simp only [se0] at H
   replace H := ite_b H
   rcases H with ⟨rfl, H⟩ | ⟨rfl, H⟩
   rotate_left
   ·
    obtain ⟨rfl, rfl, rfl, rfl, rfl⟩ : _ ∧ _ ∧ _ ∧ _ ∧ _ := by simpa only [Option.some.injEq, Prod.mk.injEq] using H
    obtain ⟨S0, S1, S2, S3, f0, f1, f2, f3, rfl, rfl, rfl, rfl⟩ := ST.out.shape
    replace BK2 := Aside0.mk (ST.out.fr _ _ _ N24.out BK2.out (by decide))
    have hcz4 := bc4 ST.out.blk
    have hcz2 := bc4 BK2.out
    go_wp2
    (try simp only [Exit.inBlock, Exit.then])
    refine bodyPost_ret (results_ct rfl _ _ g2 36 _ (0, 0) _ rfl (bpa4 BK2.out) hu36 rfl rfl) rfl ?_
    exact ⟨_, _, _, _, rfl, R_tow4 ST.out.r0 BK2.out (by decide), R_tow4 ST.out.r1 BK2.out (by decide), R_tow4 ST.out.r2 BK2.out (by decide), R_tow4 ST.out.r3 BK2.out (by decide), below_set (below_set (below_set (below_set ST.out.hb GE2.out) GE2.out) GE2.out) GE2.out⟩
   have H' := Aside0.mk H
   clear H
   go_wp2
   go_loopg [5, 6, 7] k1 (fun kq v5 v6 v7 w' => ∃ (n : Int) (b : Bool) (x : Int) (q0 : List Int) (q1 : List (S84)) (q2 : List (S86)) (q3 : List (S73)) (s0 s1 s2 s3 : Value), v5 = .int .i64 n ∧ v6 = .bool b ∧ v7 = .int .i64 x ∧ Aside0 (se1 spec_DoAct.f kq l0 n b x q0 q1 q2 q3 = some (r1, r2, r3, r4, r5)) ∧ Aside0 (kq ≤ k1) ∧ Aside0 (St w we w' g4 s0 s1 s2 s3 q0 q1 q2 q3))
   case atStart => exact ⟨n, false, 0, _, _, _, _, _, _, _, _, rfl, rfl, rfl, H', ⟨Nat.le_refl _⟩, ST⟩
   case round =>
    clear H' ST
    obtain ⟨n, b, x, q0, q1, q2, q3, s0, s1, s2, s3, rfl, rfl, rfl, HA, HK2, ST⟩ := hrel
    cases gk with
    | zero => exact absurd HA.out (by simp [se1])
    | succ k2 =>
     have H := HA.out
     clear HA
     simp only [se1] at H
     replace H := ite_lt H
     rcases H with ⟨c, H⟩ | ⟨c, H⟩
     rotate_left
     ·
      have H' := Aside0.mk H
      clear H
      go_wp2
      go_roundg k2
      case measure => have := HK1.out; have := HK2.out; omega
      case rel => exact ⟨_, _, _, _, _, _, _, _, _, _, rfl, rfl, H', ⟨by have := HK1.out; have := HK2.out; omega⟩, ST⟩
     replace H := ite_le H
     rcases H with ⟨c', H⟩ | ⟨c', H⟩
     rotate_left
     · exact none_o H
     replace H := bind_o H
     obtain ⟨r, AD, H⟩ := H
     (try dsimp only at H)
     replace AD := Aside0.mk (show spec_DoAct.f k2 q0 q1 q2 q3 _ _ _ _ _ _ _ _ _ _ = some r from AD.out)
     have H' := Aside0.mk H
     clear H
     have hl := of_decide_eq_true c
     have hl' := of_decide_eq_true c'
     obtain ⟨ad, A3, c3, e, hx0, hx1, hx2, hx3, hx4, hx5, hx6, hx7, hx8, hx9, hl3, hi3⟩ := at_T51 (Kd.C_below HR0.out ST.out.hb) x hl' hl
     cases e
     replace hi3 := Aside0.mk hi3
     replace hl3 := Aside0.mk hl3
     have p := eqt c
     have p' := eqt c'
     obtain ⟨S0, S1, S2, S3, f0, f1, f2, f3, rfl, rfl, rfl, rfl⟩ := ST.out.shape
     clear hl hl'
     go_wp2
     refine startf_ (F := fun W => Below wr.heap.size wr W) (Below.refl _ _) (fun W h => below_drew h) (fun w_ hHeld => ?_)
     refine with_tab spec_Settled.tab9 (fun HT_ => ?_)
     repeat (first | refine us_ ?_ | refine ps_ ?_ | refine ts_ hHeld ?_ (hc := take_of HT_.out (by kernel_rfl)) (hv := by intro w_ hs; have hc4_ := bc4 (blk_below ST.out.blk hs); have hy0 := cb_ ⟨hs⟩ hx0; have hy1 := cb_ ⟨hs⟩ hx1; have hy2 := cb_ ⟨hs⟩ hx2; have hy3 := cb_ ⟨hs⟩ hx3; have hy4 := cb_ ⟨hs⟩ hx4; have hy5 := cb_ ⟨hs⟩ hx5; have hy6 := cb_ ⟨hs⟩ hx6; have hy7 := cb_ ⟨hs⟩ hx7; have hy8 := cb_ ⟨hs⟩ hx8; have hy9 := cb_ ⟨hs⟩ hx9; go_simp; with_reducible rfl))
     refine reg12_ (R3 := fun s0 s1 s2 s3 y W => y = .int .i64 r.2.2.2.2 ∧ ∃ lo hi, Rw w W lo hi s0 s1 s2 s3 r.1 r.2.1 r.2.2.1 r.2.2.2.1) hHeld ?hc ?hm3 ?hm4 ?hQ
     case hc =>
      intro W hW
      have HBW := below_step ST.out.hb hW
      refine (spec_DoAct.calls k2 _ _ q0 _ _ q1 _ _ q2 _ _ q3 _ _ _ _ _ _ _ _ _ _ _ _ r.1 r.2.1 r.2.2.1 r.2.2.2.1 r.2.2.2.2 _  (Kd.R_reads' (ST.out.below hW).r0).2.2 (Kd.R_reads' (ST.out.below hW).r0).2.1 (Kd.R_reads' (ST.out.below hW).r1).2.2 (Kd.R_reads' (ST.out.below hW).r1).2.1 (Kd.R_reads' (ST.out.below hW).r2).2.2 (Kd.R_reads' (ST.out.below hW).r2).2.1 (Kd.R_reads' (ST.out.below hW).r3).2.2 (Kd.R_reads' (ST.out.below hW).r3).2.1 (Kd.C_below hi3.out hW) hl3.out AD.out).mono ?_
      rintro e w' ⟨v0, v1, v2, v3, rfl, ho0, ho1, ho2, ho3, hb⟩
      have hr := Rw.of (w := w) ho0 ho1 ho2 ho3 HBW.size
      exact ⟨_, _, _, _, _, rfl, hr.one, ⟨rfl, _, _, hr⟩, hb⟩
     case hm3 =>
      rintro s0 s1 s2 s3 y W W' ⟨rfl, lo, hi, h⟩ hb
      exact ⟨rfl, lo, hi, h.below hb⟩
     case hm4 =>
      rintro s0 s1 s2 s3 y W g cs ⟨rfl, lo, hi, h⟩ hg
      exact ⟨rfl, lo, hi, h.sets hg⟩
     rintro v0 v1 v2 v3 y g8 wd ⟨rfl, lo, hi, hR⟩ hg _ hb
     have RD := Aside0.mk hR
     have BKg := Aside0.mk hg
     replace ST := Aside0.mk (ST.out.below hb)
     clear hR hg hb hHeld HT_ AD hx0 hx1 hx2 hx3 hx4 hx5 hx6 hx7 hx8 hx9 hi3 hl3
     have hcz4 := bc4 ST.out.blk
     simp only [Act.put, List.setIfInBounds_toArray, List.set_cons_zero, List.set_cons_succ]
     have H := H'.out
     clear H'
     replace H := ite_ei H
     rcases H with ⟨⟨d1, d2, d3⟩, H⟩ | ⟨⟨d1, d2, d3⟩, H⟩
     ·
      have H' := Aside0.mk H
      clear H
      obtain ⟨V0, V1, V2, V3, e0, e1, e2, e3, rfl, rfl, rfl, rfl⟩ := RD.out.shape
      have hczg := bc4 BKg.out
      go_wp2_with (first
       | ((with_reducible refine gate_no rfl ?_); refine stw_ ST.out.blk ⟨rfl, rfl, rfl, rfl⟩ ?_; intro w1 hw; replace ST := Aside0.mk (ST.out.all RD.out); rw [← hw] at ST; clear hw RD BKg hczg)
       )
      go_roundg k2
      case measure => have := HK1.out; have := HK2.out; omega
      case rel => exact ⟨_, _, _, _, _, _, _, _, _, _, _, rfl, rfl, rfl, H', ⟨by have := HK2.out; omega⟩, ST⟩
     have H' := Aside0.mk H
     clear H RD BKg
     go_wp2
     go_roundg k2
     case measure => have := HK1.out; have := HK2.out; omega
     case rel => exact ⟨_, _, _, _, _, _, _, _, _, _, _, rfl, rfl, rfl, H', ⟨by have := HK2.out; omega⟩, ST⟩
end Go.Proofs.Ytbanogkoaplcdaa.QSe
