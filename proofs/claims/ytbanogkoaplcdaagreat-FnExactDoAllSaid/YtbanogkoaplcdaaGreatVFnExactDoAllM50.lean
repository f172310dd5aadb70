/- Parts of the proof of FnExactDoAll, one behind the other. No condition. -/
import Derived.Test.YtbanogkoaplcdaaGreatVFnExactDoAllM11
namespace Go.Proofs.YtbanogkoaplcdaaGreat.QDa
open Go.RowKit Go.Proofs.YtbanogkoaplcdaaGreat.Reg12 Go.Proofs.YtbanogkoaplcdaaGreat.Reg11 Go.Proofs.YtbanogkoaplcdaaGreat.Reg10 Go.Proofs.YtbanogkoaplcdaaGreat.Reg9 Go.Proofs.YtbanogkoaplcdaaGreat.Lock Go.Proofs.YtbanogkoaplcdaaGreat.Auto Go.Proofs.YtbanogkoaplcdaaGreat.Short Go.Proofs.YtbanogkoaplcdaaGreatW.PrintWords Go.Proofs.YtbanogkoaplcdaaGreatW.PrintLast Go.Proofs.YtbanogkoaplcdaaGreatW.PrintMore
set_option linter.unusedVariables false
set_option linter.unusedSimpArgs false
def laws_markActS.l0 : Nat → List (S61) → Int → Int → Option (Int × List (S61))
  | 0, _, _, _ => none
  | k + 1, l, q, i => if i < (l.length : Int) then (if 0 ≤ i then ((laws_markIntS.f k (rd_T61 l i).f2 (wrap64 (wrap64 (wrap64 (q + 1) + 1) + 1))).bind fun b => ((laws_markText.f k (wrap64 (b.1 + 1))).bind fun t => ((laws_markText.f k (wrap64 (wrap64 (b.1 + 1) + 1))).bind fun t2 => (laws_markActS.l0 k (l.set i.toNat (⟨⟨q, wrap64 (q + 1)⟩, wrap64 (wrap64 (q + 1) + 1), b.2, b.1, t, t2, wrap64 (wrap64 (wrap64 (b.1 + 1) + 1) + 1), ⟨wrap64 (wrap64 (wrap64 (wrap64 (b.1 + 1) + 1) + 1) + 1), wrap64 (wrap64 (wrap64 (wrap64 (wrap64 (b.1 + 1) + 1) + 1) + 1) + 1)⟩⟩ : S61)) (wrap64 (wrap64 (wrap64 (wrap64 (wrap64 (wrap64 (b.1 + 1) + 1) + 1) + 1) + 1) + 1)) (wrap64 (i + 1)))))) else none) else some (q, l)
def laws_markActS.f (k : Nat) (l : List (S61)) (q : Int) : Option (Int × List (S61)) := laws_markActS.l0 k l q 0
theorem k61_put {w : World} {base : Nat} {ok : Nat → Prop} {x : S61} {c : List Value} (h : k61.M w base ok x c) :
    (∀ v, k61.M w base ok ⟨⟨v, x.f0.f1⟩, x.f1, x.f2, x.f3, x.f4, x.f5, x.f6, x.f7⟩ (c.take 0 ++ [.int .i64 v] ++ c.drop (0 + 1))) ∧ (∀ v, k61.M w base ok ⟨⟨x.f0.f0, v⟩, x.f1, x.f2, x.f3, x.f4, x.f5, x.f6, x.f7⟩ (c.take 1 ++ [.int .i64 v] ++ c.drop (1 + 1))) ∧ (∀ v, k61.M w base ok ⟨x.f0, v, x.f2, x.f3, x.f4, x.f5, x.f6, x.f7⟩ (c.take 2 ++ [.int .i64 v] ++ c.drop (2 + 1))) ∧ (∀ v, k61.M w base ok ⟨x.f0, x.f1, x.f2, v, x.f4, x.f5, x.f6, x.f7⟩ (c.take 4 ++ [.int .i64 v] ++ c.drop (4 + 1))) ∧ (∀ v, k61.M w base ok ⟨x.f0, x.f1, x.f2, x.f3, v, x.f5, x.f6, x.f7⟩ (c.take 5 ++ [.string v] ++ c.drop (5 + 1))) ∧ (∀ v, k61.M w base ok ⟨x.f0, x.f1, x.f2, x.f3, x.f4, v, x.f6, x.f7⟩ (c.take 6 ++ [.string v] ++ c.drop (6 + 1))) ∧ (∀ v, k61.M w base ok ⟨x.f0, x.f1, x.f2, x.f3, x.f4, x.f5, v, x.f7⟩ (c.take 7 ++ [.int .i64 v] ++ c.drop (7 + 1))) ∧ (∀ v, k61.M w base ok ⟨x.f0, x.f1, x.f2, x.f3, x.f4, x.f5, x.f6, ⟨v, x.f7.f1⟩⟩ (c.take 8 ++ [.int .i64 v] ++ c.drop (8 + 1))) ∧ (∀ v, k61.M w base ok ⟨x.f0, x.f1, x.f2, x.f3, x.f4, x.f5, x.f6, ⟨x.f7.f0, v⟩⟩ (c.take 9 ++ [.int .i64 v] ++ c.drop (9 + 1))) := by
  obtain ⟨v3, rfl, hr⟩ := k61_openM h
  exact ⟨fun v => k61_mkM w base ok ⟨⟨v, x.f0.f1⟩, x.f1, x.f2, x.f3, x.f4, x.f5, x.f6, x.f7⟩ hr, fun v => k61_mkM w base ok ⟨⟨x.f0.f0, v⟩, x.f1, x.f2, x.f3, x.f4, x.f5, x.f6, x.f7⟩ hr, fun v => k61_mkM w base ok ⟨x.f0, v, x.f2, x.f3, x.f4, x.f5, x.f6, x.f7⟩ hr, fun v => k61_mkM w base ok ⟨x.f0, x.f1, x.f2, v, x.f4, x.f5, x.f6, x.f7⟩ hr, fun v => k61_mkM w base ok ⟨x.f0, x.f1, x.f2, x.f3, v, x.f5, x.f6, x.f7⟩ hr, fun v => k61_mkM w base ok ⟨x.f0, x.f1, x.f2, x.f3, x.f4, v, x.f6, x.f7⟩ hr, fun v => k61_mkM w base ok ⟨x.f0, x.f1, x.f2, x.f3, x.f4, x.f5, v, x.f7⟩ hr, fun v => k61_mkM w base ok ⟨x.f0, x.f1, x.f2, x.f3, x.f4, x.f5, x.f6, ⟨v, x.f7.f1⟩⟩ hr, fun v => k61_mkM w base ok ⟨x.f0, x.f1, x.f2, x.f3, x.f4, x.f5, x.f6, ⟨x.f7.f0, v⟩⟩ hr⟩
theorem laws_markActS.up {P0 : Nat → Prop} {w W W1 : World} {g : Nat} (h : Kept w W P0) (hg : W.grownBy W1 (some g)) (hp : P0 g) : Kept w W1 P0 := Kept.of_grown hg h (fun k hk => by injection hk with hk; subst hk; exact .inl hp)
set_option maxHeartbeats 8000000 in
set_option maxRecDepth 100000 in
theorem laws_markActS.calls (k : Nat) (P0 : Nat → Prop) (u : Value) (l0 : List (S61)) (a1 r1 : Int) (r2 : List (S61)) (w0 w : World) (hB : Below w0.heap.size w0 w) (ho : Kd.S k61 61 w w0.heap.size P0 u l0) (h : laws_markActS.f k l0 a1 = some (r1, r2)) :
  Calls Tryz.prog 14 #[u, .int .i64 a1] w fun e w' => e = .returned (.int .i64 r1) ∧ Kd.S k61 61 w' w0.heap.size P0 u r2 ∧ Below w0.heap.size w0 w' ∧ Kept w w' P0 := by
 have hu61 := Tryz.underlying61
 have hu59 := Tryz.underlying59
 obtain ⟨A, cap, rfl⟩ := Kd.S_slice ho
 have ST := Aside0.mk ho
 have HB := Aside0.mk hB
 have KW := Aside0.mk (Kept.refl w P0)
 have H' := Aside0.mk h
 clear h ho hB
 go_enter Tryz.func14, Tryz.ntmps14
 go_wp2
 go_loopg [1, 5] k (fun kq v1 v5 w' => ∃ (lq : List (S61)) (q x : Int), v1 = .int .i64 q ∧ v5 = .int .i64 x ∧ Aside0 (laws_markActS.l0 kq lq q x = some (r1, r2)) ∧ Aside0 (kq ≤ k) ∧ Aside0 (Kd.S k61 61 w' w0.heap.size P0 (.slice A l0.length cap) lq) ∧ Aside0 (lq.length = l0.length) ∧ Aside0 (Below w0.heap.size w0 w') ∧ Aside0 (Kept w w' P0))
 case atStart => exact ⟨l0, a1, 0, zR, zR, H', ⟨Nat.le_refl _⟩, ⟨ST.out⟩, ⟨rfl⟩, ⟨HB.out⟩, ⟨KW.out⟩⟩
 case round =>
  clear H' ST HB KW
  obtain ⟨lq, q, x, rfl, rfl, HA, HK1, ST, HL, HB, KW⟩ := hrel
  cases gk with
  | zero => exact absurd HA.out (by simp [laws_markActS.l0])
  | succ k1 =>
   have H := HA.out
   clear HA
   simp only [laws_markActS.l0] at H
   rw [HL.out] at H
   replace H := ite_lt H
   rcases H with ⟨c, H⟩ | ⟨c, H⟩
   rotate_left
   ·
    obtain ⟨rfl, rfl⟩ : _ ∧ _ := by simpa only [Option.some.injEq, Prod.mk.injEq] using H
    go_wp2
    go_ret
    exact ⟨rfl, ST.out, HB.out, KW.out⟩
   replace H := ite_le H
   rcases H with ⟨c', H⟩ | ⟨c', H⟩
   rotate_left
   · exact none_o H
   replace H := bind_o H
   obtain ⟨b, AI, H⟩ := H
   (try dsimp only at H)
   replace H := bind_o H
   obtain ⟨t, A1, H⟩ := H
   (try dsimp only at H)
   replace H := bind_o H
   obtain ⟨t2, A2, H⟩ := H
   (try dsimp only at H)
   have H' := Aside0.mk H
   clear H
   have hl := of_decide_eq_true c
   have hl' := of_decide_eq_true c'
   obtain ⟨g, cp, e0, hgb, hgl, _⟩ := Kd.S_form ST.out (by have := HL.out; omega)
   obtain rfl : A = some ⟨g, 0, none⟩ := by injection e0
   clear e0 cp
   have p := eqt c
   have p' := eqt c'
   have hx : x.toNat < lq.length := by have := HL.out; omega
   have PG : P0 g := (Kd.S_R ST.out).1 g rfl
   have GB := Aside0.mk hgb
   replace ST := Aside0.mk ((set_self (z := z61) hx).symm ▸ ST.out : Kd.S k61 61 _ w0.heap.size P0 (.slice (some ⟨g, 0, none⟩) l0.length cap) (lq.set x.toNat (lq.getD x.toNat z61)))
   have hrd : rd_T61 lq x = lq.getD x.toNat z61 := rfl
   rw [hrd] at AI
   generalize lq.getD x.toNat z61 = y at ST AI
   clear hrd hgb
   have TK0 := Aside0.mk trivial
   have TK1 := Aside0.mk trivial
   have TK2 := Aside0.mk trivial
   have TK3 := Aside0.mk trivial
   have TK4 := Aside0.mk trivial
   have TK5 := Aside0.mk trivial
   have TK6 := Aside0.mk trivial
   have TK7 := Aside0.mk trivial
   have TK8 := Aside0.mk trivial
   go_wp2_with (first
    | ((with_reducible refine gate_no rfl ?_); clear TK0; refine stA_ (k := 0) ST.out hl' hl hx (fun oki c hc => (k61_put hc).1 _) z61 rfl rfl (by first | rfl | (simp; rfl)) rfl rfl rfl rfl (Nat.le_of_ble_eq_true rfl) ?_; intro w1 hS hG; replace KW := Aside0.mk (laws_markActS.up KW.out hG PG); replace HB := Aside0.mk (below_grow HB.out hG GB.out HB.out.size); replace ST := Aside0.mk hS; clear hS hG)
    | ((with_reducible refine gate_no rfl ?_); clear TK1; refine stA_ (k := 1) ST.out hl' hl hx (fun oki c hc => (k61_put hc).2.1 _) z61 rfl rfl (by first | rfl | (simp; rfl)) rfl rfl rfl rfl (Nat.le_of_ble_eq_true rfl) ?_; intro w1 hS hG; replace KW := Aside0.mk (laws_markActS.up KW.out hG PG); replace HB := Aside0.mk (below_grow HB.out hG GB.out HB.out.size); replace ST := Aside0.mk hS; clear hS hG)
    | ((with_reducible refine gate_no rfl ?_); clear TK2; refine stA_ (k := 2) ST.out hl' hl hx (fun oki c hc => (k61_put hc).2.2.1 _) z61 rfl rfl (by first | rfl | (simp; rfl)) rfl rfl rfl rfl (Nat.le_of_ble_eq_true rfl) ?_; intro w1 hS hG; replace KW := Aside0.mk (laws_markActS.up KW.out hG PG); replace HB := Aside0.mk (below_grow HB.out hG GB.out HB.out.size); replace ST := Aside0.mk hS; clear hS hG; obtain ⟨oki, cc, hcl, hm, hcc, hoki, hH⟩ := Kd.S_lend ST.out z61 x hl' hl; rw [getD_set hx] at hm; obtain ⟨v3, rfl, hr3⟩ := k61_openM hm; obtain ⟨A3, c3, rfl⟩ := Kd.R_slice hr3; have hc3 := hcc 3 _ rfl; simp only [show k61.sz = 10 from rfl] at hc3)
    | ((with_reducible refine gate_no rfl ?_); clear TK3; refine stA_ (k := 4) ST.out hl' hl hx (fun oki c hc => (k61_put hc).2.2.2.1 _) z61 rfl rfl (by first | rfl | (simp; rfl)) rfl rfl rfl rfl (Nat.le_of_ble_eq_true rfl) ?_; intro w1 hS hG; replace KW := Aside0.mk (laws_markActS.up KW.out hG PG); replace HB := Aside0.mk (below_grow HB.out hG GB.out HB.out.size); replace ST := Aside0.mk hS; clear hS hG)
    | ((with_reducible refine gate_no rfl ?_); clear TK4; refine stA_ (k := 5) ST.out hl' hl hx (fun oki c hc => (k61_put hc).2.2.2.2.1 _) z61 rfl rfl (by first | rfl | (simp; rfl)) rfl rfl rfl rfl (Nat.le_of_ble_eq_true rfl) ?_; intro w1 hS hG; replace KW := Aside0.mk (laws_markActS.up KW.out hG PG); replace HB := Aside0.mk (below_grow HB.out hG GB.out HB.out.size); replace ST := Aside0.mk hS; clear hS hG)
    | ((with_reducible refine gate_no rfl ?_); clear TK5; refine stA_ (k := 6) ST.out hl' hl hx (fun oki c hc => (k61_put hc).2.2.2.2.2.1 _) z61 rfl rfl (by first | rfl | (simp; rfl)) rfl rfl rfl rfl (Nat.le_of_ble_eq_true rfl) ?_; intro w1 hS hG; replace KW := Aside0.mk (laws_markActS.up KW.out hG PG); replace HB := Aside0.mk (below_grow HB.out hG GB.out HB.out.size); replace ST := Aside0.mk hS; clear hS hG)
    | ((with_reducible refine gate_no rfl ?_); clear TK6; refine stA_ (k := 7) ST.out hl' hl hx (fun oki c hc => (k61_put hc).2.2.2.2.2.2.1 _) z61 rfl rfl (by first | rfl | (simp; rfl)) rfl rfl rfl rfl (Nat.le_of_ble_eq_true rfl) ?_; intro w1 hS hG; replace KW := Aside0.mk (laws_markActS.up KW.out hG PG); replace HB := Aside0.mk (below_grow HB.out hG GB.out HB.out.size); replace ST := Aside0.mk hS; clear hS hG)
    | ((with_reducible refine gate_no rfl ?_); clear TK7; refine stA_ (k := 8) ST.out hl' hl hx (fun oki c hc => (k61_put hc).2.2.2.2.2.2.2.1 _) z61 rfl rfl (by first | rfl | (simp; rfl)) rfl rfl rfl rfl (Nat.le_of_ble_eq_true rfl) ?_; intro w1 hS hG; replace KW := Aside0.mk (laws_markActS.up KW.out hG PG); replace HB := Aside0.mk (below_grow HB.out hG GB.out HB.out.size); replace ST := Aside0.mk hS; clear hS hG)
    | ((with_reducible refine gate_no rfl ?_); clear TK8; refine stA_ (k := 9) ST.out hl' hl hx (fun oki c hc => (k61_put hc).2.2.2.2.2.2.2.2 _) z61 rfl rfl (by first | rfl | (simp; rfl)) rfl rfl rfl rfl (Nat.le_of_ble_eq_true rfl) ?_; intro w1 hS hG; replace KW := Aside0.mk (laws_markActS.up KW.out hG PG); replace HB := Aside0.mk (below_grow HB.out hG GB.out HB.out.size); replace ST := Aside0.mk hS; clear hS hG)
    | (go_at_call 15; refine (laws_markIntS.calls k1 oki _ y.f2 _ b.1 b.2 w0 _ HB.out hr3 AI.out).mono ?_; rintro e w' ⟨rfl, hr4, hB4, hK4⟩; have hS4 := Kd.H_back (Kd.H_kept hH hK4 (fun k _ hn hs => hn hs)) (k61_mkM w' w0.heap.size oki ⟨⟨q, wrap64 (q + 1)⟩, wrap64 (wrap64 (q + 1) + 1), b.2, y.f3, y.f4, y.f5, y.f6, y.f7⟩ (Kd.R_reok rfl hr4 hr3.1)) (fun _ h => h); rw [List.set_set] at hS4; replace KW := Aside0.mk (KW.out.then_ hK4 (fun k hk => .inl (hoki k hk).1)); replace HB := Aside0.mk hB4; replace ST := Aside0.mk hS4; clear hS4 hr4 hB4 hK4 hcc hm hH hcl hr3 hc3)
    | (go_at_call 39; (with_reducible refine (laws_markText.calls k1 _ _ _ A1.out).mono ?_); rintro e w' ⟨rfl, hb⟩; replace KW := Aside0.mk (KW.out.below hb); replace ST := Aside0.mk (Kd.S_step ST.out (fun k _ hlt => hb.block k hlt)); replace HB := Aside0.mk (below_step HB.out hb); clear hb)
    | (go_at_call 39; (with_reducible refine (laws_markText.calls k1 _ _ _ A2.out).mono ?_); rintro e w' ⟨rfl, hb⟩; replace KW := Aside0.mk (KW.out.below hb); replace ST := Aside0.mk (Kd.S_step ST.out (fun k _ hlt => hb.block k hlt)); replace HB := Aside0.mk (below_step HB.out hb); clear hb)
    )
   go_roundg k1
   case measure => have := HK1.out; omega
   case rel => exact ⟨_, _, _, rfl, rfl, H', ⟨by have := HK1.out; omega⟩, ⟨ST.out⟩, ⟨by rw [List.length_set]; exact HL.out⟩, ⟨HB.out⟩, ⟨KW.out⟩⟩
end Go.Proofs.YtbanogkoaplcdaaGreat.QDa
