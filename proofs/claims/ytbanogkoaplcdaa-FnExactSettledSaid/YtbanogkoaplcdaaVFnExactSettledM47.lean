/- Parts of the proof of FnExactSettled, one behind the other. No condition. -/
import Derived.Test.YtbanogkoaplcdaaVFnExactSettledM14
import Derived.Test.YtbanogkoaplcdaaVFnExactSettledM46
namespace Go.Proofs.Ytbanogkoaplcdaa.QSe
open Go.RowKit Go.Proofs.Ytbanogkoaplcdaa.Reg13 Go.Proofs.Ytbanogkoaplcdaa.Reg12 Go.Proofs.Ytbanogkoaplcdaa.Reg11 Go.Proofs.Ytbanogkoaplcdaa.Reg10 Go.Proofs.Ytbanogkoaplcdaa.Reg9 Go.Proofs.Ytbanogkoaplcdaa.Lock Go.Proofs.Ytbanogkoaplcdaa.Auto Go.Proofs.Ytbanogkoaplcdaa.Short Go.Proofs.YtbanogkoaplcdaaW.PrintWords Go.Proofs.YtbanogkoaplcdaaW.PrintLast Go.Proofs.YtbanogkoaplcdaaW.PrintMore
set_option linter.unusedVariables false
set_option linter.unusedSimpArgs false
def impl_Settled.f (k : Nat) (l0 : List (S51)) : Option Got := (impl_StateNew.f).bind fun o => se0 impl_DoAct.f k l0 0 true o.1 o.2.1 o.2.2.1 o.2.2.2
set_option maxHeartbeats 8000000 in
set_option maxRecDepth 100000 in
theorem impl_Settled.calls (k : Nat) (A0 : Option Addr) (c0 : Nat) (l0 : List (S51)) (r1 : List Int) (r2 : List (S84)) (r3 : List (S86)) (r4 : List (S73)) (r5 : Int) (w : World) (hr0 : Kd.C k51 w A0 l0.length l0) (hc0 : l0.length ≤ c0) (h : impl_Settled.f k l0 = some (r1, r2, r3, r4, r5)) :
  Calls Try.prog 30 #[.slice A0 l0.length c0] w fun e w' => ∃ v0_ v1_ v2_ v3_ : Value, e = .returned (.tuple #[.agg #[v0_, v1_, v2_, v3_], .int .i64 r5]) ∧ Kd.R (Kd.int .i64) 3 w' w.heap.size (fun _ => True) v0_ r1 ∧ Kd.R k84 84 w' w.heap.size (fun _ => True) v1_ r2 ∧ Kd.R k86 86 w' w.heap.size (fun _ => True) v2_ r3 ∧ Kd.R k73 73 w' w.heap.size (fun _ => True) v3_ r4 ∧ Below w.heap.size w w' := by
 have hu36 := Try.underlying36
 have hu51 := Try.underlying51
 have HR0 := Aside0.mk hr0
 have HC0 := Aside0.mk hc0
 have HB := Aside0.mk (Below.refl w.heap.size w)
 unfold impl_Settled.f at h
 replace h := bind_o h
 obtain ⟨o, AN, h⟩ := h
 have H' := Aside0.mk h
 clear h hr0 hc0
 go_enter Try.func30, Try.ntmps30
 go_wp2_with (first
  | ((with_reducible refine gate_dst (N := 2) rfl ?_); refine bx_ (N := 2) ?_; intro g2 hg w1 hbox hb; have GE2 := Aside0.mk (Nat.le_trans HB.out.size (Nat.le_of_eq hg.symm)); replace HB := Aside0.mk (below_step HB.out hb); have BK2 := Aside0.mk hbox; clear hb hbox hg)
  | (go_at_call 88; refine (impl_StateNew.calls o.1 o.2.1 o.2.2.1 o.2.2.2 _ AN.out).mono ?_; rintro e w' ⟨v0, v1, v2, v3, rfl, ho0, ho1, ho2, ho3, hb⟩; have RN := Aside0.mk (Rw.of (w := w) ho0 ho1 ho2 ho3 HB.out.size); replace BK2 := Aside0.mk (blk_below BK2.out hb); replace HB := Aside0.mk (below_step HB.out hb); clear ho0 ho1 ho2 ho3 hb; obtain ⟨N0, N1, N2, N3, n0, n1, n2, n3, rfl, rfl, rfl, rfl⟩ := RN.out.shape)
  | ((with_reducible refine gate_dst (N := 4) rfl ?_); refine al4_ (N := 4) RN.out.one ?_; intro g4 we hg hbox hb; have N24 := Aside0.mk (Nat.ne_of_lt (Nat.lt_of_lt_of_eq (blk_lt BK2.out) hg.symm)); have GE4 := Nat.le_trans HB.out.size (Nat.le_of_eq hg.symm); replace BK2 := Aside0.mk (blk_below BK2.out hb); replace HB := Aside0.mk (below_step HB.out hb); have ST := Aside0.mk ((RN.out.below hb).st hbox HB.out GE4); clear hb hbox hg GE4 RN HB)
  )
 go_loopg [5, 6] k (fun kq v5 v6 w' => ∃ (n : Int) (b : Bool) (q0 : List Int) (q1 : List (S84)) (q2 : List (S86)) (q3 : List (S73)) (s0 s1 s2 s3 : Value), v5 = .int .i64 n ∧ v6 = .bool b ∧ Aside0 (se0 impl_DoAct.f kq l0 n b q0 q1 q2 q3 = some (r1, r2, r3, r4, r5)) ∧ Aside0 (kq ≤ k) ∧ Aside0 (St w we w' g4 s0 s1 s2 s3 q0 q1 q2 q3))
 case atStart => exact ⟨0, true, _, _, _, _, _, _, _, _, rfl, rfl, H', ⟨Nat.le_refl _⟩, ST⟩
 case round =>
  clear H' ST AN
  obtain ⟨n, b, q0, q1, q2, q3, s0, s1, s2, s3, rfl, rfl, HA, HK1, ST⟩ := hrel
  cases gk with
  | zero => exact absurd HA.out (by simp [se0])
  | succ k1 =>
   have H := HA.out
   clear HA
   simp only [se0] at H
   replace H := ite_b H
   rcases H with ⟨rfl, H⟩ | ⟨rfl, H⟩
   rotate_left
   ·
    obtain ⟨rfl, rfl, rfl, rfl, rfl⟩ : _ ∧ _ ∧ _ ∧ _ ∧ _ := by simpa only [Option.some.injEq, Prod.mk.injEq] using H
    obtain ⟨S0, S1, S2, S3, f0, f1, f2, f3, rfl, rfl, rfl, rfl⟩ := ST.out.shape
    replace BK2 := Aside0.mk (ST.out.fr _ _ _ N24.out BK2.out (by decide))
    have hcz4 := bc4 ST.out.blk
    have hcz2 := bc4 BK2.out
    go_wp2
    (try simp only [Exit.inBlock, Exit.then])
    refine bodyPost_ret (results_ct rfl _ _ g2 36 _ (0, 0) _ rfl (bpa4 BK2.out) hu36 rfl rfl) rfl ?_
    exact ⟨_, _, _, _, rfl, R_tow4 ST.out.r0 BK2.out (by decide), R_tow4 ST.out.r1 BK2.out (by decide), R_tow4 ST.out.r2 BK2.out (by decide), R_tow4 ST.out.r3 BK2.out (by decide), below_set (below_set (below_set (below_set ST.out.hb GE2.out) GE2.out) GE2.out) GE2.out⟩
   have H' := Aside0.mk H
   clear H
   go_wp2
   go_loopg [5, 6, 15] k1 (fun kq v5 v6 v7 w' => ∃ (n : Int) (b : Bool) (x : Int) (q0 : List Int) (q1 : List (S84)) (q2 : List (S86)) (q3 : List (S73)) (s0 s1 s2 s3 : Value), v5 = .int .i64 n ∧ v6 = .bool b ∧ v7 = .int .i64 x ∧ Aside0 (se1 impl_DoAct.f kq l0 n b x q0 q1 q2 q3 = some (r1, r2, r3, r4, r5)) ∧ Aside0 (kq ≤ k1) ∧ Aside0 (St w we w' g4 s0 s1 s2 s3 q0 q1 q2 q3))
   case atStart => exact ⟨n, false, 0, _, _, _, _, _, _, _, _, rfl, rfl, rfl, H', ⟨Nat.le_refl _⟩, ST⟩
   case round =>
    clear H' ST
    obtain ⟨n, b, x, q0, q1, q2, q3, s0, s1, s2, s3, rfl, rfl, rfl, HA, HK2, ST⟩ := hrel
    cases gk with
    | zero => exact absurd HA.out (by simp [se1])
    | succ k2 =>
     have H := HA.out
     clear HA
     simp only [se1] at H
     replace H := ite_lt H
     rcases H with ⟨c, H⟩ | ⟨c, H⟩
     rotate_left
     ·
      have H' := Aside0.mk H
      clear H
      go_wp2
      go_roundg k2
      case measure => have := HK1.out; have := HK2.out; omega
      case rel => exact ⟨_, _, _, _, _, _, _, _, _, _, rfl, rfl, H', ⟨by have := HK1.out; have := HK2.out; omega⟩, ST⟩
     replace H := ite_le H
     rcases H with ⟨c', H⟩ | ⟨c', H⟩
     rotate_left
     · exact none_o H
     replace H := bind_o H
     obtain ⟨r, AD, H⟩ := H
     (try dsimp only at H)
     replace AD := Aside0.mk (show impl_DoAct.f k2 q0 q1 q2 q3 _ _ _ _ _ _ _ _ _ _ = some r from AD.out)
     have H' := Aside0.mk H
     clear H
     have hl := of_decide_eq_true c
     have hl' := of_decide_eq_true c'
     obtain ⟨ad, A3, c3, e, hx0, hx1, hx2, hx3, hx4, hx5, hx6, hx7, hx8, hx9, hl3, hi3⟩ := at_T51 (Kd.C_below HR0.out ST.out.hb) x hl' hl
     cases e
     replace hi3 := Aside0.mk hi3
     replace hl3 := Aside0.mk hl3
     have p := eqt c
     have p' := eqt c'
     obtain ⟨S0, S1, S2, S3, f0, f1, f2, f3, rfl, rfl, rfl, rfl⟩ := ST.out.shape
     clear hl hl'
     have hcz4 := bc4 ST.out.blk
     go_wp2_with (first
      | ((with_reducible refine gate_dst (N := 8) rfl ?_); refine al10_ (N := 8) rfl ?_; intro g8 w1 hg hbox hb; have BK8 := Aside0.mk hbox; replace ST := Aside0.mk (ST.out.below hb); replace hi3 := Aside0.mk (Kd.C_below hi3.out hb); clear hg hbox hb hcz4 hx0 hx1 hx2 hx3 hx4 hx5 hx6 hx7 hx8 hx9; have hcz4 := bc4 ST.out.blk; have hcz8 := bc10 BK8.out)
      | (go_at_call 22; refine (impl_DoAct.calls k2 _ _ q0 _ _ q1 _ _ q2 _ _ q3 _ _ _ _ _ _ _ _ _ _ _ _ r.1 r.2.1 r.2.2.1 r.2.2.2.1 r.2.2.2.2 _  (Kd.R_reads' ST.out.r0).2.2 (Kd.R_reads' ST.out.r0).2.1 (Kd.R_reads' ST.out.r1).2.2 (Kd.R_reads' ST.out.r1).2.1 (Kd.R_reads' ST.out.r2).2.2 (Kd.R_reads' ST.out.r2).2.1 (Kd.R_reads' ST.out.r3).2.2 (Kd.R_reads' ST.out.r3).2.1 hi3.out hl3.out AD.out).mono ?_; rintro e w' ⟨v0, v1, v2, v3, rfl, ho0, ho1, ho2, ho3, hb⟩; have RD := Aside0.mk (Rw.of (w := w) ho0 ho1 ho2 ho3 ST.out.hb.size); replace ST := Aside0.mk (ST.out.below hb); clear ho0 ho1 ho2 ho3 hb hcz4 hcz8 BK8 hi3 hl3; have hcz4 := bc4 ST.out.blk)
      | ((with_reducible refine gate_dst (N := 9) rfl ?_); refine al4_ (N := 9) RD.out.one ?_; intro g9 w1 hg hbox hb; have BKg := Aside0.mk hbox; replace RD := Aside0.mk (RD.out.below hb); replace ST := Aside0.mk (ST.out.below hb); clear hg hbox hb hcz4; have hcz4 := bc4 ST.out.blk; refine Aside0.out ?_)
      )
     refine ⟨?_⟩
     have H := H'.out
     clear H'
     replace H := ite_ei H
     rcases H with ⟨⟨d1, d2, d3⟩, H⟩ | ⟨⟨d1, d2, d3⟩, H⟩
     ·
      have H' := Aside0.mk H
      clear H
      obtain ⟨V0, V1, V2, V3, e0, e1, e2, e3, rfl, rfl, rfl, rfl⟩ := RD.out.shape
      have hczg := bc4 BKg.out
      go_wp2_with (first
       | ((with_reducible refine gate_no rfl ?_); refine stw_ ST.out.blk ⟨rfl, rfl, rfl, rfl⟩ ?_; intro w1 hw; replace ST := Aside0.mk (ST.out.all RD.out); rw [← hw] at ST; clear hw RD BKg hczg)
       )
      go_roundg k2
      case measure => have := HK1.out; have := HK2.out; omega
      case rel => exact ⟨_, _, _, _, _, _, _, _, _, _, _, rfl, rfl, rfl, H', ⟨by have := HK2.out; omega⟩, ST⟩
     have H' := Aside0.mk H
     clear H RD BKg
     go_wp2
     go_roundg k2
     case measure => have := HK1.out; have := HK2.out; omega
     case rel => exact ⟨_, _, _, _, _, _, _, _, _, _, _, rfl, rfl, rfl, H', ⟨by have := HK2.out; omega⟩, ST⟩
end Go.Proofs.Ytbanogkoaplcdaa.QSe
namespace Go.Proofs.Ytbanogkoaplcdaa.QSe
open Go.RowKit Go.Proofs.Ytbanogkoaplcdaa.Reg12 Go.Proofs.Ytbanogkoaplcdaa.Reg11 Go.Proofs.Ytbanogkoaplcdaa.Reg10 Go.Proofs.Ytbanogkoaplcdaa.Reg9 Go.Proofs.Ytbanogkoaplcdaa.Lock Go.Proofs.Ytbanogkoaplcdaa.Auto Go.Proofs.Ytbanogkoaplcdaa.Short Go.Proofs.YtbanogkoaplcdaaW.PrintWords Go.Proofs.YtbanogkoaplcdaaW.PrintLast Go.Proofs.YtbanogkoaplcdaaW.PrintMore
set_option linter.unusedVariables false
set_option linter.unusedSimpArgs false
def laws_toActS.l0 : Nat → List (S46) → List (S51) → Int → Option (List (S51))
  | 0, _, _, _ => none
  | k + 1, l, o, i => if i < (l.length : Int) then (if 0 ≤ i then ((laws_toAct.f k (rd_T46 l i).f0.f0 (rd_T46 l i).f0.f1 (rd_T46 l i).f1 (rd_T46 l i).f2 (rd_T46 l i).f3 (rd_T46 l i).f4 (rd_T46 l i).f5 (rd_T46 l i).f6 (rd_T46 l i).f7.f0 (rd_T46 l i).f7.f1).bind fun b => (laws_toActS.l0 k l (o.set i.toNat (⟨⟨b.1, b.2.1⟩, b.2.2.1, b.2.2.2.1, b.2.2.2.2.1, b.2.2.2.2.2.1, b.2.2.2.2.2.2.1, b.2.2.2.2.2.2.2.1, ⟨b.2.2.2.2.2.2.2.2.1, b.2.2.2.2.2.2.2.2.2⟩⟩ : S51)) (wrap64 (i + 1)))) else none) else some o
def laws_toActS.f (k : Nat) (l : List (S46)) : Option (List (S51)) := if l.length ≤ 2513169434916 then laws_toActS.l0 k l (List.replicate l.length z51) 0 else none
set_option maxHeartbeats 8000000 in
set_option maxRecDepth 100000 in
theorem laws_toActS.calls (k : Nat) (A0 : Option Addr) (c0 : Nat) (l0 : List (S46)) (r : List (S51)) (w : World) (hr0 : Kd.C k46 w A0 l0.length l0) (hc0 : l0.length ≤ c0) (h : laws_toActS.f k l0 = some r) :
  Calls Try.prog 29 #[.slice A0 l0.length c0] w fun e w' => ∃ v0_ : Value, e = .returned (v0_) ∧ Kd.S k51 51 w' w.heap.size (fun _ => True) v0_ r ∧ Below w.heap.size w w' := by
 have hu46 := Try.underlying46
 have hu51 := Try.underlying51
 have HR0 := Aside0.mk hr0
 have HC0 := Aside0.mk hc0
 have HB := Aside0.mk (Below.refl w.heap.size w)
 unfold laws_toActS.f at h
 clear hr0 hc0
 by_cases c : l0.length ≤ 2513169434916
 rotate_left
 · rw [if_neg c] at h
   cases h
 rw [if_pos c] at h
 have H' := Aside0.mk h
 clear h
 go_enter Try.func29, Try.ntmps29
 go_wp2_with (first | ((with_reducible refine gate_dst (N := 7) rfl ?_); refine Kd.S_make k51 _ 51 rfl (N := 7) rfl 60 _ _ rfl (l0.length : Int) rfl rfl Try.underlying60 (.agg #[(.int .i64 0), (.int .i64 0), (.int .i64 0), (.slice none 0 0), (.int .i64 0), (.string ⟨#[]⟩), (.string ⟨#[]⟩), (.int .i64 0), (.int .i64 0), (.int .i64 0)]) 112 info51 rfl (by decide) (by omega) z51 (ok := fun _ => True) (okp := fun _ => True) (k51_mkM _ _ _ z51 (Kd.R_nil _ _ _ _ _)) (fun _ hk => hk) trivial (by omega) (by omega) (Below.refl _ _) (Nat.le_refl _) ?_; intro v w4 ho hb hg_ hnew_; clear hg_ hnew_; simp only [Int.toNat_natCast] at ho; have HO := Aside0.mk (Kd.S_lower ho HB.out.size); replace HB := Aside0.mk (below_step HB.out hb); clear hb ho))
 obtain ⟨A, cap, e0⟩ := Kd.S_slice HO.out
 rw [List.length_replicate] at e0
 subst e0
 go_loopg [4] k (fun kq v4 w' => ∃ (o : List (S51)) (x : Int), v4 = .int .i64 x ∧ Aside0 (laws_toActS.l0 kq l0 o x = some r) ∧ Aside0 (kq ≤ k) ∧ Aside0 (Kd.S k51 51 w' w.heap.size (fun _ => True) (.slice A l0.length cap) o) ∧ Aside0 (o.length = l0.length) ∧ Aside0 (Below w.heap.size w w'))
 case atStart => exact ⟨_, 0, rfl, H', ⟨Nat.le_refl _⟩, ⟨HO.out⟩, ⟨List.length_replicate⟩, ⟨HB.out⟩⟩
 case round =>
  clear H' HO HB c
  obtain ⟨o, x, rfl, HA, HK1, HO, HL, HB⟩ := hrel
  cases gk with
  | zero => exact absurd HA.out (by simp [laws_toActS.l0])
  | succ k1 =>
   have H := HA.out
   clear HA
   simp only [laws_toActS.l0] at H
   replace H := ite_lt H
   rcases H with ⟨c, H⟩ | ⟨c, H⟩
   rotate_left
   ·
    obtain rfl := Option.some.inj H
    go_wp2
    go_ret
    exact ⟨_, rfl, HO.out, HB.out⟩
   replace H := ite_le H
   rcases H with ⟨c', H⟩ | ⟨c', H⟩
   rotate_left
   · exact none_o H
   replace H := bind_o H
   obtain ⟨b, AB, H⟩ := H
   (try dsimp only at H)
   have H' := Aside0.mk H
   clear H
   have hl := of_decide_eq_true c
   have hl' := of_decide_eq_true c'
   obtain ⟨g, cp, e0, _, hgl, _⟩ := Kd.S_form HO.out (by have := HL.out; omega)
   obtain rfl : A = some ⟨g, 0, none⟩ := by injection e0
   clear e0 cp
   have p := eqt c
   have p' := eqt c'
   have SB := Aside0.mk (Kd.S_base HO.out g rfl)
   obtain ⟨ad, A3, c3, e, hx0, hx1, hx2, hx3, hx4, hx5, hx6, hx7, hx8, hx9, hl3, hi3⟩ := at_T46 (Kd.C_below HR0.out HB.out) x hl' hl
   cases e
   go_wp2_with (first
    | (go_at_call 21; refine (laws_toAct.calls k1 _ _ _ _ _ _ _ _ _ _ _ _ b.1 b.2.1 b.2.2.1 b.2.2.2.1 b.2.2.2.2.1 b.2.2.2.2.2.1 b.2.2.2.2.2.2.1 b.2.2.2.2.2.2.2.1 b.2.2.2.2.2.2.2.2.1 b.2.2.2.2.2.2.2.2.2 _ hi3 hl3 AB.out).mono ?_; rintro e w' ⟨v3, rfl, ho, hb⟩; obtain ⟨A5, c5, rfl⟩ := Kd.R_slice ho; have RO := Aside0.mk (Kd.R_mono (Kd.R_lower (Kd.R_bound ho) HB.out.size) (fun k hk => hk.2.1)); have SO := Aside0.mk (Kd.S_old HO.out hb); replace HB := Aside0.mk (below_step HB.out hb); clear ho hb HO)
    | ((with_reducible refine gate_no rfl ?_); refine stO_ (x' := ⟨⟨b.1, b.2.1⟩, b.2.2.1, b.2.2.2.1, b.2.2.2.2.1, b.2.2.2.2.2.1, b.2.2.2.2.2.2.1, b.2.2.2.2.2.2.2.1, ⟨b.2.2.2.2.2.2.2.2.1, b.2.2.2.2.2.2.2.2.2⟩⟩) z51 SO.out hgl hl' hl (k51_mkM _ _ _ ⟨⟨b.1, b.2.1⟩, b.2.2.1, b.2.2.2.1, b.2.2.2.2.1, b.2.2.2.2.2.1, b.2.2.2.2.2.2.1, b.2.2.2.2.2.2.2.1, ⟨b.2.2.2.2.2.2.2.2.1, b.2.2.2.2.2.2.2.2.2⟩⟩ RO.out) rfl rfl (by first | rfl | (simp; rfl)) rfl rfl rfl (fun q hq => one10 rfl hq) rfl ?_; intro w1 hS hG; replace HB := Aside0.mk (below_grow HB.out hG SB.out HB.out.size); have HO := Aside0.mk hS; clear hS hG SO RO)
    )
   go_roundg k1
   case measure => have := HK1.out; omega
   case rel => exact ⟨_, _, rfl, H', ⟨by have := HK1.out; omega⟩, ⟨HO.out⟩, ⟨by rw [List.length_set]; exact HL.out⟩, ⟨HB.out⟩⟩
end Go.Proofs.Ytbanogkoaplcdaa.QSe
