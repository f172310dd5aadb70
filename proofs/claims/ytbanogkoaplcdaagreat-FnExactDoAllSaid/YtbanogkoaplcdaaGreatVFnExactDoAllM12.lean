/- Parts of the proof of FnExactDoAll, one behind the other. No condition. -/
import Derived.Test.YtbanogkoaplcdaaGreatVFnExactDoAllM11
namespace Go.Proofs.YtbanogkoaplcdaaGreat.QDa
open Go.RowKit Go.Proofs.YtbanogkoaplcdaaGreat.Reg14 Go.Proofs.YtbanogkoaplcdaaGreat.Reg13 Go.Proofs.YtbanogkoaplcdaaGreat.Reg12 Go.Proofs.YtbanogkoaplcdaaGreat.Reg11 Go.Proofs.YtbanogkoaplcdaaGreat.Reg10 Go.Proofs.YtbanogkoaplcdaaGreat.Reg9 Go.Proofs.YtbanogkoaplcdaaGreat.Lock Go.Proofs.YtbanogkoaplcdaaGreat.Auto Go.Proofs.YtbanogkoaplcdaaGreat.Short Go.Proofs.YtbanogkoaplcdaaGreatW.PrintWords Go.Proofs.YtbanogkoaplcdaaGreatW.PrintLast Go.Proofs.YtbanogkoaplcdaaGreatW.PrintMore
attribute [local go_sem] max2_int min2_int max_two min_two max_three min_three max_four min_four   -- for this text's walks alone
set_option linter.unusedVariables false
set_option linter.unusedSimpArgs false
theorem z34_9 {P : Prop} (h : P := by repeat (first | exact Drawn0.refl _ | apply Drawn0.step)) : P := h
theorem z34_8 {P : Prop} (h : P := by first | rfl | (simp [errW_none, errW_some] <;> rfl) | (simp [*, errW_none, errW_some] <;> rfl)) : P := h
theorem z34_7 {P : Prop} (h : P := by (with_reducible repeat (first | refine blk_drewN ?_ _ | refine blk_drew ?_ | refine blk_alloc ?_ _)); exact BK906.out) : P := h
theorem z34_6 {P : Prop} (h : P := by first | rfl | (simp only [List.map_toArray, List.map_cons, List.map_nil]; first | done | rfl)) : P := h
theorem z34_5 {P : Prop} (h : P := by first | rfl | (simp; done) | (simp [*]; done)) : P := h
theorem z34_4 {P : Prop} (h : P := by repeat (first | (with_reducible first | exact HK.out | apply Kept.alloc | apply Kept.drewN | apply Kept.drew | refine Kept.setCell ?_ (.inr GW906.out) _) | exact HK.out)) : P := h
theorem z34_3 {P : Prop} (h : P := by repeat (first | (with_reducible first | exact HB.out | apply below_alloc | apply pw_below_drewN | apply below_drew1) | exact HB.out)) : P := h
theorem z34_1 {P : Prop} (h : P := by repeat (first | (with_reducible first | exact HK.out | apply Kept.alloc | apply Kept.drewN | apply Kept.drew) | exact HK.out)) : P := h
theorem z34_0 {P : Prop} (h : P := by first | (with_reducible assumption) | assumption) : P := h
theorem z34_10 {P : Prop} (h : P := by repeat (first | (with_reducible first | exact HB.out | apply below_alloc | apply pw_below_drewN | apply below_drew1 | refine below_set ?_ GE906.out) | exact HB.out)) : P := h
def laws_markLiveS.l0 : Nat → List (S93) → Int → Int → Option (Int × List (S93))
  | 0, _, _, _ => none
  | k + 1, l, q, i => if i < (l.length : Int) then (if 0 ≤ i then ((laws_markText.f k (wrap64 (q + 1))).bind fun t1 => ((laws_markText.f k (wrap64 (wrap64 (q + 1) + 1))).bind fun t2 => laws_markLiveS.l0 k (l.set i.toNat (⟨(Int.tmod q 3 == 0), t1, t2, wrap64 (wrap64 (wrap64 (q + 1) + 1) + 1), ⟨wrap64 (wrap64 (wrap64 (wrap64 (q + 1) + 1) + 1) + 1), wrap64 (wrap64 (wrap64 (wrap64 (wrap64 (q + 1) + 1) + 1) + 1) + 1)⟩⟩ : S93)) (wrap64 (wrap64 (wrap64 (wrap64 (wrap64 (wrap64 (q + 1) + 1) + 1) + 1) + 1) + 1)) (wrap64 (i + 1)))) else none) else some (q, l)
def laws_markLiveS.f (k : Nat) (l : List (S93)) (q : Int) : Option (Int × List (S93)) := laws_markLiveS.l0 k l q 0
theorem k93_put {w : World} {base : Nat} {ok ok' : Nat → Prop} {x : S93} {c : List Value} (h : k93.M w base ok x c) : (∀ v, k93.M w base ok' ⟨v, x.f1, x.f2, x.f3, ⟨x.f4.f0, x.f4.f1⟩⟩ (c.take 0 ++ [.bool v] ++ c.drop (0 + 1))) ∧ (∀ v, k93.M w base ok' ⟨x.f0, v, x.f2, x.f3, ⟨x.f4.f0, x.f4.f1⟩⟩ (c.take 1 ++ [.string v] ++ c.drop (1 + 1))) ∧ (∀ v, k93.M w base ok' ⟨x.f0, x.f1, v, x.f3, ⟨x.f4.f0, x.f4.f1⟩⟩ (c.take 2 ++ [.string v] ++ c.drop (2 + 1))) ∧ (∀ v, k93.M w base ok' ⟨x.f0, x.f1, x.f2, v, ⟨x.f4.f0, x.f4.f1⟩⟩ (c.take 3 ++ [.int .i64 v] ++ c.drop (3 + 1))) ∧ (∀ v, k93.M w base ok' ⟨x.f0, x.f1, x.f2, x.f3, ⟨v, x.f4.f1⟩⟩ (c.take 4 ++ [.int .i64 v] ++ c.drop (4 + 1))) ∧ (∀ v, k93.M w base ok' ⟨x.f0, x.f1, x.f2, x.f3, ⟨x.f4.f0, v⟩⟩ (c.take 5 ++ [.int .i64 v] ++ c.drop (5 + 1))) := by
 obtain rfl := k93_openM h
 exact ⟨fun v => k93_mkM w base ok' ⟨v, x.f1, x.f2, x.f3, ⟨x.f4.f0, x.f4.f1⟩⟩, fun v => k93_mkM w base ok' ⟨x.f0, v, x.f2, x.f3, ⟨x.f4.f0, x.f4.f1⟩⟩, fun v => k93_mkM w base ok' ⟨x.f0, x.f1, v, x.f3, ⟨x.f4.f0, x.f4.f1⟩⟩, fun v => k93_mkM w base ok' ⟨x.f0, x.f1, x.f2, v, ⟨x.f4.f0, x.f4.f1⟩⟩, fun v => k93_mkM w base ok' ⟨x.f0, x.f1, x.f2, x.f3, ⟨v, x.f4.f1⟩⟩, fun v => k93_mkM w base ok' ⟨x.f0, x.f1, x.f2, x.f3, ⟨x.f4.f0, v⟩⟩⟩
set_option maxHeartbeats 8000000 in
set_option maxRecDepth 100000 in
theorem laws_markLiveS.calls (k : Nat) (P0_ : Nat → Prop) (u9000_ : Value) (l0 : List (S93)) (a1 : Int) (r1 : Int) (r2 : List (S93)) (w0 w : World) (hB : Below w0.heap.size w0 w) (ho0 : Kd.R k93 93 w w0.heap.size P0_ u9000_ l0) (h : laws_markLiveS.f k l0 a1 = some (r1, r2)) :
  Calls Tryz.prog 37 #[u9000_, .int .i64 a1] w fun e w' => e = .returned (.int .i64 r1) ∧ Kd.R k93 93 w' w0.heap.size (fun k_ => (P0_ k_ ∨ w.heap.size ≤ k_)) u9000_ r2 ∧ Below w0.heap.size w0 w' ∧ Kept w w' (fun k_ => P0_ k_) := by
 have hu93 := Tryz.underlying93
 have hu59 := Tryz.underlying59
 obtain ⟨A, cap, rfl⟩ := Kd.R_slice ho0
 have ST := Aside0.mk ho0
 have HB := Aside0.mk hB
 have KW := Aside0.mk (Kept.refl w P0_)
 have H' := Aside0.mk h
 clear h ho0 hB
 go_enter Tryz.func37, Tryz.ntmps37
 go_wp2
 go_loopg [1, 5] k (fun kq v1 v5 w' => ∃ (lq : List (S93)) (q x : Int), v1 = .int .i64 q ∧ v5 = .int .i64 x ∧ Aside0 (laws_markLiveS.l0 kq lq q x = some (r1, r2)) ∧ Aside0 (kq ≤ k) ∧ Aside0 (Kd.R k93 93 w' w0.heap.size P0_ (.slice A l0.length cap) lq) ∧ Aside0 (lq.length = l0.length) ∧ Aside0 (Below w0.heap.size w0 w') ∧ Aside0 (Kept w w' P0_))
 case atStart => exact ⟨l0, a1, 0, rfl, rfl, H', ⟨Nat.le_refl _⟩, ⟨ST.out⟩, ⟨rfl⟩, ⟨HB.out⟩, ⟨KW.out⟩⟩
 case round =>
  clear H' ST HB KW
  obtain ⟨lq, q, x, rfl, rfl, HA, HK1, ST, HL, HB, KW⟩ := hrel
  cases gk with
  | zero => exact absurd HA.out (by simp [laws_markLiveS.l0])
  | succ k1 =>
   have H := HA.out
   clear HA
   simp only [laws_markLiveS.l0] at H
   rw [HL.out] at H
   replace H := ite_lt H
   rcases H with ⟨c, H⟩ | ⟨c, H⟩
   rotate_left
   ·
    obtain ⟨rfl, rfl⟩ : _ ∧ _ := by simpa only [Option.some.injEq, Prod.mk.injEq] using H
    go_wp2
    go_ret
    exact ⟨rfl, Kd.R_mono ST.out (fun _ h => .inl h), HB.out, KW.out⟩
   replace H := ite_le H
   rcases H with ⟨c', H⟩ | ⟨c', H⟩
   rotate_left
   · exact none_o H
   replace H := bind_o H
   obtain ⟨t1, A1, H⟩ := H
   (try dsimp only at H)
   replace H := bind_o H
   obtain ⟨t2, A2, H⟩ := H
   (try dsimp only at H)
   have H' := Aside0.mk H
   clear H
   have hl := of_decide_eq_true c
   have hl' := of_decide_eq_true c'
   obtain ⟨g, cp, e0, hgb, hgl, _⟩ := Kd.R_form ST.out (by have := HL.out; omega)
   obtain rfl : A = some ⟨g, 0, none⟩ := by injection e0
   clear e0 cp
   have p := eqt c
   have p' := eqt c'
   have hx : x.toNat < lq.length := by have := HL.out; omega
   have PG : P0_ g := ST.out.1 g rfl
   have GB := Aside0.mk hgb
   replace ST := Aside0.mk ((set_self (z := z93) hx).symm ▸ ST.out : Kd.R k93 93 _ w0.heap.size P0_ (.slice (some ⟨g, 0, none⟩) l0.length cap) (lq.set x.toNat (lq.getD x.toNat z93)))
   generalize lq.getD x.toNat z93 = y at ST
   clear hgb
   have TK0 := Aside0.mk trivial
   have TK1 := Aside0.mk trivial
   have TK2 := Aside0.mk trivial
   have TK3 := Aside0.mk trivial
   have TK4 := Aside0.mk trivial
   have TK5 := Aside0.mk trivial
   go_wp2_with (first
    | ((with_reducible refine gate_no rfl ?_); clear TK0; refine stB_ (k := 0) z93 ST.out hl' hl hx (fun okx c hc => (k93_put hc).1 _) rfl rfl (by first | rfl | (simp; rfl)) rfl rfl rfl rfl (Nat.le_of_ble_eq_true rfl) ?_; intro w1 hS hG; replace KW := Aside0.mk (Kept.of_grown hG KW.out (fun k hk => by injection hk with hk; subst hk; exact .inl PG)); replace HB := Aside0.mk (below_grow HB.out hG GB.out HB.out.size); replace ST := Aside0.mk hS; clear hS hG)
    | ((with_reducible refine gate_no rfl ?_); clear TK1; refine stB_ (k := 1) z93 ST.out hl' hl hx (fun okx c hc => (k93_put hc).2.1 _) rfl rfl (by first | rfl | (simp; rfl)) rfl rfl rfl rfl (Nat.le_of_ble_eq_true rfl) ?_; intro w1 hS hG; replace KW := Aside0.mk (Kept.of_grown hG KW.out (fun k hk => by injection hk with hk; subst hk; exact .inl PG)); replace HB := Aside0.mk (below_grow HB.out hG GB.out HB.out.size); replace ST := Aside0.mk hS; clear hS hG)
    | ((with_reducible refine gate_no rfl ?_); clear TK2; refine stB_ (k := 2) z93 ST.out hl' hl hx (fun okx c hc => (k93_put hc).2.2.1 _) rfl rfl (by first | rfl | (simp; rfl)) rfl rfl rfl rfl (Nat.le_of_ble_eq_true rfl) ?_; intro w1 hS hG; replace KW := Aside0.mk (Kept.of_grown hG KW.out (fun k hk => by injection hk with hk; subst hk; exact .inl PG)); replace HB := Aside0.mk (below_grow HB.out hG GB.out HB.out.size); replace ST := Aside0.mk hS; clear hS hG)
    | ((with_reducible refine gate_no rfl ?_); clear TK3; refine stB_ (k := 3) z93 ST.out hl' hl hx (fun okx c hc => (k93_put hc).2.2.2.1 _) rfl rfl (by first | rfl | (simp; rfl)) rfl rfl rfl rfl (Nat.le_of_ble_eq_true rfl) ?_; intro w1 hS hG; replace KW := Aside0.mk (Kept.of_grown hG KW.out (fun k hk => by injection hk with hk; subst hk; exact .inl PG)); replace HB := Aside0.mk (below_grow HB.out hG GB.out HB.out.size); replace ST := Aside0.mk hS; clear hS hG)
    | ((with_reducible refine gate_no rfl ?_); clear TK4; refine stB_ (k := 4) z93 ST.out hl' hl hx (fun okx c hc => (k93_put hc).2.2.2.2.1 _) rfl rfl (by first | rfl | (simp; rfl)) rfl rfl rfl rfl (Nat.le_of_ble_eq_true rfl) ?_; intro w1 hS hG; replace KW := Aside0.mk (Kept.of_grown hG KW.out (fun k hk => by injection hk with hk; subst hk; exact .inl PG)); replace HB := Aside0.mk (below_grow HB.out hG GB.out HB.out.size); replace ST := Aside0.mk hS; clear hS hG)
    | ((with_reducible refine gate_no rfl ?_); clear TK5; refine stB_ (k := 5) z93 ST.out hl' hl hx (fun okx c hc => (k93_put hc).2.2.2.2.2 _) rfl rfl (by first | rfl | (simp; rfl)) rfl rfl rfl rfl (Nat.le_of_ble_eq_true rfl) ?_; intro w1 hS hG; replace KW := Aside0.mk (Kept.of_grown hG KW.out (fun k hk => by injection hk with hk; subst hk; exact .inl PG)); replace HB := Aside0.mk (below_grow HB.out hG GB.out HB.out.size); replace ST := Aside0.mk hS; clear hS hG)
    | (go_at_call 39; (with_reducible refine (laws_markText.calls k1 _ _ _ A1.out).mono ?_); rintro e w' ⟨rfl, hb⟩; replace KW := Aside0.mk (KW.out.below hb); replace ST := Aside0.mk (Kd.R_below ST.out hb); replace HB := Aside0.mk (below_step HB.out hb); clear hb)
    | (go_at_call 39; (with_reducible refine (laws_markText.calls k1 _ _ _ A2.out).mono ?_); rintro e w' ⟨rfl, hb⟩; replace KW := Aside0.mk (KW.out.below hb); replace ST := Aside0.mk (Kd.R_below ST.out hb); replace HB := Aside0.mk (below_step HB.out hb); clear hb)
    )
   go_roundg k1
   case measure => have := HK1.out; omega
   case rel => exact ⟨_, _, _, rfl, rfl, H', ⟨by have := HK1.out; omega⟩, ⟨ST.out⟩, ⟨by rw [List.length_set]; exact HL.out⟩, ⟨HB.out⟩, ⟨KW.out⟩⟩
def laws_markCellS.l0 : Nat → List (S96) → Int → Int → Option (Int × List (S96))
  | 0, _, _, _ => none
  | k + 1, l, q, i => if i < (l.length : Int) then (if 0 ≤ i then ((laws_markText.f k q).bind fun t0 => laws_markCellS.l0 k (l.set i.toNat (⟨t0, ⟨wrap64 (q + 1), wrap64 (wrap64 (q + 1) + 1)⟩, wrap64 (wrap64 (wrap64 (q + 1) + 1) + 1), ⟨wrap64 (wrap64 (wrap64 (wrap64 (q + 1) + 1) + 1) + 1), wrap64 (wrap64 (wrap64 (wrap64 (wrap64 (q + 1) + 1) + 1) + 1) + 1)⟩, wrap64 (wrap64 (wrap64 (wrap64 (wrap64 (wrap64 (q + 1) + 1) + 1) + 1) + 1) + 1), (Int.tmod (wrap64 (wrap64 (wrap64 (wrap64 (wrap64 (wrap64 (wrap64 (q + 1) + 1) + 1) + 1) + 1) + 1) + 1)) 3 == 0)⟩ : S96)) (wrap64 (wrap64 (wrap64 (wrap64 (wrap64 (wrap64 (wrap64 (wrap64 (q + 1) + 1) + 1) + 1) + 1) + 1) + 1) + 1)) (wrap64 (i + 1))) else none) else some (q, l)
def laws_markCellS.f (k : Nat) (l : List (S96)) (q : Int) : Option (Int × List (S96)) := laws_markCellS.l0 k l q 0
theorem k96_put {w : World} {base : Nat} {ok ok' : Nat → Prop} {x : S96} {c : List Value} (h : k96.M w base ok x c) : (∀ v, k96.M w base ok' ⟨v, ⟨x.f1.f0, x.f1.f1⟩, x.f2, ⟨x.f3.f0, x.f3.f1⟩, x.f4, x.f5⟩ (c.take 0 ++ [.string v] ++ c.drop (0 + 1))) ∧ (∀ v, k96.M w base ok' ⟨x.f0, ⟨v, x.f1.f1⟩, x.f2, ⟨x.f3.f0, x.f3.f1⟩, x.f4, x.f5⟩ (c.take 1 ++ [.int .i64 v] ++ c.drop (1 + 1))) ∧ (∀ v, k96.M w base ok' ⟨x.f0, ⟨x.f1.f0, v⟩, x.f2, ⟨x.f3.f0, x.f3.f1⟩, x.f4, x.f5⟩ (c.take 2 ++ [.int .i64 v] ++ c.drop (2 + 1))) ∧ (∀ v, k96.M w base ok' ⟨x.f0, ⟨x.f1.f0, x.f1.f1⟩, v, ⟨x.f3.f0, x.f3.f1⟩, x.f4, x.f5⟩ (c.take 3 ++ [.int .i64 v] ++ c.drop (3 + 1))) ∧ (∀ v, k96.M w base ok' ⟨x.f0, ⟨x.f1.f0, x.f1.f1⟩, x.f2, ⟨v, x.f3.f1⟩, x.f4, x.f5⟩ (c.take 4 ++ [.int .i64 v] ++ c.drop (4 + 1))) ∧ (∀ v, k96.M w base ok' ⟨x.f0, ⟨x.f1.f0, x.f1.f1⟩, x.f2, ⟨x.f3.f0, v⟩, x.f4, x.f5⟩ (c.take 5 ++ [.int .i64 v] ++ c.drop (5 + 1))) ∧ (∀ v, k96.M w base ok' ⟨x.f0, ⟨x.f1.f0, x.f1.f1⟩, x.f2, ⟨x.f3.f0, x.f3.f1⟩, v, x.f5⟩ (c.take 6 ++ [.int .i64 v] ++ c.drop (6 + 1))) ∧ (∀ v, k96.M w base ok' ⟨x.f0, ⟨x.f1.f0, x.f1.f1⟩, x.f2, ⟨x.f3.f0, x.f3.f1⟩, x.f4, v⟩ (c.take 7 ++ [.bool v] ++ c.drop (7 + 1))) := by
 obtain rfl := k96_openM h
 exact ⟨fun v => k96_mkM w base ok' ⟨v, ⟨x.f1.f0, x.f1.f1⟩, x.f2, ⟨x.f3.f0, x.f3.f1⟩, x.f4, x.f5⟩, fun v => k96_mkM w base ok' ⟨x.f0, ⟨v, x.f1.f1⟩, x.f2, ⟨x.f3.f0, x.f3.f1⟩, x.f4, x.f5⟩, fun v => k96_mkM w base ok' ⟨x.f0, ⟨x.f1.f0, v⟩, x.f2, ⟨x.f3.f0, x.f3.f1⟩, x.f4, x.f5⟩, fun v => k96_mkM w base ok' ⟨x.f0, ⟨x.f1.f0, x.f1.f1⟩, v, ⟨x.f3.f0, x.f3.f1⟩, x.f4, x.f5⟩, fun v => k96_mkM w base ok' ⟨x.f0, ⟨x.f1.f0, x.f1.f1⟩, x.f2, ⟨v, x.f3.f1⟩, x.f4, x.f5⟩, fun v => k96_mkM w base ok' ⟨x.f0, ⟨x.f1.f0, x.f1.f1⟩, x.f2, ⟨x.f3.f0, v⟩, x.f4, x.f5⟩, fun v => k96_mkM w base ok' ⟨x.f0, ⟨x.f1.f0, x.f1.f1⟩, x.f2, ⟨x.f3.f0, x.f3.f1⟩, v, x.f5⟩, fun v => k96_mkM w base ok' ⟨x.f0, ⟨x.f1.f0, x.f1.f1⟩, x.f2, ⟨x.f3.f0, x.f3.f1⟩, x.f4, v⟩⟩
set_option maxHeartbeats 8000000 in
set_option maxRecDepth 100000 in
theorem laws_markCellS.calls (k : Nat) (P0_ : Nat → Prop) (u9000_ : Value) (l0 : List (S96)) (a1 : Int) (r1 : Int) (r2 : List (S96)) (w0 w : World) (hB : Below w0.heap.size w0 w) (ho0 : Kd.R k96 96 w w0.heap.size P0_ u9000_ l0) (h : laws_markCellS.f k l0 a1 = some (r1, r2)) :
  Calls Tryz.prog 38 #[u9000_, .int .i64 a1] w fun e w' => e = .returned (.int .i64 r1) ∧ Kd.R k96 96 w' w0.heap.size (fun k_ => (P0_ k_ ∨ w.heap.size ≤ k_)) u9000_ r2 ∧ Below w0.heap.size w0 w' ∧ Kept w w' (fun k_ => P0_ k_) := by
 have hu96 := Tryz.underlying96
 have hu59 := Tryz.underlying59
 obtain ⟨A, cap, rfl⟩ := Kd.R_slice ho0
 have ST := Aside0.mk ho0
 have HB := Aside0.mk hB
 have KW := Aside0.mk (Kept.refl w P0_)
 have H' := Aside0.mk h
 clear h ho0 hB
 go_enter Tryz.func38, Tryz.ntmps38
 go_wp2
 go_loopg [1, 5] k (fun kq v1 v5 w' => ∃ (lq : List (S96)) (q x : Int), v1 = .int .i64 q ∧ v5 = .int .i64 x ∧ Aside0 (laws_markCellS.l0 kq lq q x = some (r1, r2)) ∧ Aside0 (kq ≤ k) ∧ Aside0 (Kd.R k96 96 w' w0.heap.size P0_ (.slice A l0.length cap) lq) ∧ Aside0 (lq.length = l0.length) ∧ Aside0 (Below w0.heap.size w0 w') ∧ Aside0 (Kept w w' P0_))
 case atStart => exact ⟨l0, a1, 0, rfl, rfl, H', ⟨Nat.le_refl _⟩, ⟨ST.out⟩, ⟨rfl⟩, ⟨HB.out⟩, ⟨KW.out⟩⟩
 case round =>
  clear H' ST HB KW
  obtain ⟨lq, q, x, rfl, rfl, HA, HK1, ST, HL, HB, KW⟩ := hrel
  cases gk with
  | zero => exact absurd HA.out (by simp [laws_markCellS.l0])
  | succ k1 =>
   have H := HA.out
   clear HA
   simp only [laws_markCellS.l0] at H
   rw [HL.out] at H
   replace H := ite_lt H
   rcases H with ⟨c, H⟩ | ⟨c, H⟩
   rotate_left
   ·
    obtain ⟨rfl, rfl⟩ : _ ∧ _ := by simpa only [Option.some.injEq, Prod.mk.injEq] using H
    go_wp2
    go_ret
    exact ⟨rfl, Kd.R_mono ST.out (fun _ h => .inl h), HB.out, KW.out⟩
   replace H := ite_le H
   rcases H with ⟨c', H⟩ | ⟨c', H⟩
   rotate_left
   · exact none_o H
   replace H := bind_o H
   obtain ⟨t0, A0, H⟩ := H
   (try dsimp only at H)
   have H' := Aside0.mk H
   clear H
   have hl := of_decide_eq_true c
   have hl' := of_decide_eq_true c'
   obtain ⟨g, cp, e0, hgb, hgl, _⟩ := Kd.R_form ST.out (by have := HL.out; omega)
   obtain rfl : A = some ⟨g, 0, none⟩ := by injection e0
   clear e0 cp
   have p := eqt c
   have p' := eqt c'
   have hx : x.toNat < lq.length := by have := HL.out; omega
   have PG : P0_ g := ST.out.1 g rfl
   have GB := Aside0.mk hgb
   replace ST := Aside0.mk ((set_self (z := z96) hx).symm ▸ ST.out : Kd.R k96 96 _ w0.heap.size P0_ (.slice (some ⟨g, 0, none⟩) l0.length cap) (lq.set x.toNat (lq.getD x.toNat z96)))
   generalize lq.getD x.toNat z96 = y at ST
   clear hgb
   have TK0 := Aside0.mk trivial
   have TK1 := Aside0.mk trivial
   have TK2 := Aside0.mk trivial
   have TK3 := Aside0.mk trivial
   have TK4 := Aside0.mk trivial
   have TK5 := Aside0.mk trivial
   have TK6 := Aside0.mk trivial
   have TK7 := Aside0.mk trivial
   go_wp2_with (first
    | ((with_reducible refine gate_no rfl ?_); clear TK0; refine stB_ (k := 0) z96 ST.out hl' hl hx (fun okx c hc => (k96_put hc).1 _) rfl rfl (by first | rfl | (simp; rfl)) rfl rfl rfl rfl (Nat.le_of_ble_eq_true rfl) ?_; intro w1 hS hG; replace KW := Aside0.mk (Kept.of_grown hG KW.out (fun k hk => by injection hk with hk; subst hk; exact .inl PG)); replace HB := Aside0.mk (below_grow HB.out hG GB.out HB.out.size); replace ST := Aside0.mk hS; clear hS hG)
    | ((with_reducible refine gate_no rfl ?_); clear TK1; refine stB_ (k := 1) z96 ST.out hl' hl hx (fun okx c hc => (k96_put hc).2.1 _) rfl rfl (by first | rfl | (simp; rfl)) rfl rfl rfl rfl (Nat.le_of_ble_eq_true rfl) ?_; intro w1 hS hG; replace KW := Aside0.mk (Kept.of_grown hG KW.out (fun k hk => by injection hk with hk; subst hk; exact .inl PG)); replace HB := Aside0.mk (below_grow HB.out hG GB.out HB.out.size); replace ST := Aside0.mk hS; clear hS hG)
    | ((with_reducible refine gate_no rfl ?_); clear TK2; refine stB_ (k := 2) z96 ST.out hl' hl hx (fun okx c hc => (k96_put hc).2.2.1 _) rfl rfl (by first | rfl | (simp; rfl)) rfl rfl rfl rfl (Nat.le_of_ble_eq_true rfl) ?_; intro w1 hS hG; replace KW := Aside0.mk (Kept.of_grown hG KW.out (fun k hk => by injection hk with hk; subst hk; exact .inl PG)); replace HB := Aside0.mk (below_grow HB.out hG GB.out HB.out.size); replace ST := Aside0.mk hS; clear hS hG)
    | ((with_reducible refine gate_no rfl ?_); clear TK3; refine stB_ (k := 3) z96 ST.out hl' hl hx (fun okx c hc => (k96_put hc).2.2.2.1 _) rfl rfl (by first | rfl | (simp; rfl)) rfl rfl rfl rfl (Nat.le_of_ble_eq_true rfl) ?_; intro w1 hS hG; replace KW := Aside0.mk (Kept.of_grown hG KW.out (fun k hk => by injection hk with hk; subst hk; exact .inl PG)); replace HB := Aside0.mk (below_grow HB.out hG GB.out HB.out.size); replace ST := Aside0.mk hS; clear hS hG)
    | ((with_reducible refine gate_no rfl ?_); clear TK4; refine stB_ (k := 4) z96 ST.out hl' hl hx (fun okx c hc => (k96_put hc).2.2.2.2.1 _) rfl rfl (by first | rfl | (simp; rfl)) rfl rfl rfl rfl (Nat.le_of_ble_eq_true rfl) ?_; intro w1 hS hG; replace KW := Aside0.mk (Kept.of_grown hG KW.out (fun k hk => by injection hk with hk; subst hk; exact .inl PG)); replace HB := Aside0.mk (below_grow HB.out hG GB.out HB.out.size); replace ST := Aside0.mk hS; clear hS hG)
    | ((with_reducible refine gate_no rfl ?_); clear TK5; refine stB_ (k := 5) z96 ST.out hl' hl hx (fun okx c hc => (k96_put hc).2.2.2.2.2.1 _) rfl rfl (by first | rfl | (simp; rfl)) rfl rfl rfl rfl (Nat.le_of_ble_eq_true rfl) ?_; intro w1 hS hG; replace KW := Aside0.mk (Kept.of_grown hG KW.out (fun k hk => by injection hk with hk; subst hk; exact .inl PG)); replace HB := Aside0.mk (below_grow HB.out hG GB.out HB.out.size); replace ST := Aside0.mk hS; clear hS hG)
    | ((with_reducible refine gate_no rfl ?_); clear TK6; refine stB_ (k := 6) z96 ST.out hl' hl hx (fun okx c hc => (k96_put hc).2.2.2.2.2.2.1 _) rfl rfl (by first | rfl | (simp; rfl)) rfl rfl rfl rfl (Nat.le_of_ble_eq_true rfl) ?_; intro w1 hS hG; replace KW := Aside0.mk (Kept.of_grown hG KW.out (fun k hk => by injection hk with hk; subst hk; exact .inl PG)); replace HB := Aside0.mk (below_grow HB.out hG GB.out HB.out.size); replace ST := Aside0.mk hS; clear hS hG)
    | ((with_reducible refine gate_no rfl ?_); clear TK7; refine stB_ (k := 7) z96 ST.out hl' hl hx (fun okx c hc => (k96_put hc).2.2.2.2.2.2.2 _) rfl rfl (by first | rfl | (simp; rfl)) rfl rfl rfl rfl (Nat.le_of_ble_eq_true rfl) ?_; intro w1 hS hG; replace KW := Aside0.mk (Kept.of_grown hG KW.out (fun k hk => by injection hk with hk; subst hk; exact .inl PG)); replace HB := Aside0.mk (below_grow HB.out hG GB.out HB.out.size); replace ST := Aside0.mk hS; clear hS hG)
    | (go_at_call 39; (with_reducible refine (laws_markText.calls k1 _ _ _ A0.out).mono ?_); rintro e w' ⟨rfl, hb⟩; replace KW := Aside0.mk (KW.out.below hb); replace ST := Aside0.mk (Kd.R_below ST.out hb); replace HB := Aside0.mk (below_step HB.out hb); clear hb)
    )
   go_roundg k1
   case measure => have := HK1.out; omega
   case rel => exact ⟨_, _, _, rfl, rfl, H', ⟨by have := HK1.out; omega⟩, ⟨ST.out⟩, ⟨by rw [List.length_set]; exact HL.out⟩, ⟨HB.out⟩, ⟨KW.out⟩⟩
def laws_markState.f (k : Nat) (l0_0 : List Int) (l0_1 : List (S90)) (l0_2 : List (S93)) (l0_3 : List (S96)) (a1 : Int) : Option (Int × List Int × (List (S90)) × (List (S93)) × (List (S96))) := (laws_markIntS.f k l0_0 a1).bind fun bt907 => ((laws_markTallyS.f k l0_1 bt907.1).bind fun bt909 => ((laws_markLiveS.f k l0_2 bt909.1).bind fun bt911 => ((laws_markCellS.f k l0_3 bt911.1).bind fun bt913 => (some (bt913.1, bt907.2, bt909.2, bt911.2, bt913.2)))))
set_option maxHeartbeats 8000000 in
set_option maxRecDepth 100000 in
theorem laws_markState.calls (k : Nat) (P0_0_ : Nat → Prop) (u9000_ : Value) (l0_0 : List Int) (P0_1_ : Nat → Prop) (u9001_ : Value) (l0_1 : List (S90)) (P0_2_ : Nat → Prop) (u9002_ : Value) (l0_2 : List (S93)) (P0_3_ : Nat → Prop) (u9003_ : Value) (l0_3 : List (S96)) (a1 : Int) (r1 : Int) (r2 : List Int) (r3 : List (S90)) (r4 : List (S93)) (r5 : List (S96)) (w0 w : World) (hB : Below w0.heap.size w0 w) (ho0_0 : Kd.R (Kd.int .i64) 3 w w0.heap.size P0_0_ u9000_ l0_0) (ho0_1 : Kd.R k90 90 w w0.heap.size P0_1_ u9001_ l0_1) (ho0_2 : Kd.R k93 93 w w0.heap.size P0_2_ u9002_ l0_2) (ho0_3 : Kd.R k96 96 w w0.heap.size P0_3_ u9003_ l0_3) (h : laws_markState.f k l0_0 l0_1 l0_2 l0_3 a1 = some (r1, r2, r3, r4, r5)) :
  Calls Tryz.prog 13 #[.agg #[u9000_, u9001_, u9002_, u9003_], .int .i64 a1] w fun e w' => e = .returned (.int .i64 r1) ∧ Kd.R (Kd.int .i64) 3 w' w0.heap.size (fun k_ => ((P0_0_ k_ ∨ P0_1_ k_ ∨ P0_2_ k_ ∨ P0_3_ k_) ∨ w.heap.size ≤ k_)) u9000_ r2 ∧ Kd.R k90 90 w' w0.heap.size (fun k_ => ((P0_0_ k_ ∨ P0_1_ k_ ∨ P0_2_ k_ ∨ P0_3_ k_) ∨ w.heap.size ≤ k_)) u9001_ r3 ∧ Kd.R k93 93 w' w0.heap.size (fun k_ => ((P0_0_ k_ ∨ P0_1_ k_ ∨ P0_2_ k_ ∨ P0_3_ k_) ∨ w.heap.size ≤ k_)) u9002_ r4 ∧ Kd.R k96 96 w' w0.heap.size (fun k_ => ((P0_0_ k_ ∨ P0_1_ k_ ∨ P0_2_ k_ ∨ P0_3_ k_) ∨ w.heap.size ≤ k_)) u9003_ r5 ∧ Below w0.heap.size w0 w' ∧ Kept w w' (fun k_ => P0_0_ k_ ∨ P0_1_ k_ ∨ P0_2_ k_ ∨ P0_3_ k_) := by
 have hu35 := Tryz.underlying35
 have HO0_0 := Aside0.mk (show Kd.R (Kd.int .i64) 3 w w0.heap.size (fun k_ => ((P0_0_ k_ ∨ P0_1_ k_ ∨ P0_2_ k_ ∨ P0_3_ k_) ∨ w.heap.size ≤ k_)) u9000_ l0_0 from Kd.R_mono ho0_0 (fun k_ hk => (.inl (.inl hk))))
 have HO0_1 := Aside0.mk (show Kd.R k90 90 w w0.heap.size (fun k_ => ((P0_0_ k_ ∨ P0_1_ k_ ∨ P0_2_ k_ ∨ P0_3_ k_) ∨ w.heap.size ≤ k_)) u9001_ l0_1 from Kd.R_mono ho0_1 (fun k_ hk => (.inl (.inr (.inl hk)))))
 have HO0_2 := Aside0.mk (show Kd.R k93 93 w w0.heap.size (fun k_ => ((P0_0_ k_ ∨ P0_1_ k_ ∨ P0_2_ k_ ∨ P0_3_ k_) ∨ w.heap.size ≤ k_)) u9002_ l0_2 from Kd.R_mono ho0_2 (fun k_ hk => (.inl (.inr (.inr (.inl hk))))))
 have HO0_3 := Aside0.mk (show Kd.R k96 96 w w0.heap.size (fun k_ => ((P0_0_ k_ ∨ P0_1_ k_ ∨ P0_2_ k_ ∨ P0_3_ k_) ∨ w.heap.size ≤ k_)) u9003_ l0_3 from Kd.R_mono ho0_3 (fun k_ hk => (.inl (.inr (.inr (.inr hk))))))
 have HK := Aside0.mk (Kept.refl w (fun k_ => P0_0_ k_ ∨ P0_1_ k_ ∨ P0_2_ k_ ∨ P0_3_ k_))
 have HW0 := Aside0.mk hB.size
 have HB := Aside0.mk hB
 clear hB
 have H := h
 unfold laws_markState.f at H
 clear h
 replace H := Option.bind_eq_some_iff.mp H
 obtain ⟨⟨t907, t908⟩, A30, H⟩ := H
 (try dsimp only at H)
 have A3 := Aside0.mk A30
 clear A30
 replace H := Option.bind_eq_some_iff.mp H
 obtain ⟨⟨t909, t910⟩, A40, H⟩ := H
 (try dsimp only at H)
 have A4 := Aside0.mk A40
 clear A40
 replace H := Option.bind_eq_some_iff.mp H
 obtain ⟨⟨t911, t912⟩, A50, H⟩ := H
 (try dsimp only at H)
 have A5 := Aside0.mk A50
 clear A50
 replace H := Option.bind_eq_some_iff.mp H
 obtain ⟨⟨t913, t914⟩, A60, H⟩ := H
 (try dsimp only at H)
 have A6 := Aside0.mk A60
 clear A60
 simp only [Option.some.injEq, Prod.mk.injEq] at H
 obtain ⟨rfl, rfl, rfl, rfl, rfl⟩ := H
 obtain ⟨Ao7, co7, eo7⟩ := Kd.R_slice HO0_0.out
 subst eo7
 obtain ⟨Ao8, co8, eo8⟩ := Kd.R_slice HO0_1.out
 subst eo8
 obtain ⟨Ao9, co9, eo9⟩ := Kd.R_slice HO0_2.out
 subst eo9
 obtain ⟨Ao10, co10, eo10⟩ := Kd.R_slice HO0_3.out
 subst eo10
 go_enter Tryz.func13, Tryz.ntmps13
 go_wp2_with (first | ((with_reducible refine gate_dst (N := 2) rfl ?_); refine box_event ?hg (N := 2) ?hd (cs := #[.slice Ao7 l0_0.length co7, .slice Ao8 l0_1.length co8, .slice Ao9 l0_2.length co9, .slice Ao10 l0_3.length co10]) (t := 35) ?hr ?_; (case hd => rfl); (case hg => rfl); (case hr => first | (go_simp; done) | (go_simp; rfl)); intro gb906 hg w11 hbox hb; replace HO0_0 := Aside0.mk (Kd.R_below (by (with_reducible repeat (first | apply Kd.R_alloc | apply Kd.R_drewN | apply Kd.R_drew)); exact HO0_0.out) hb); replace HO0_1 := Aside0.mk (Kd.R_below (by (with_reducible repeat (first | apply Kd.R_alloc | apply Kd.R_drewN | apply Kd.R_drew)); exact HO0_1.out) hb); replace HO0_2 := Aside0.mk (Kd.R_below (by (with_reducible repeat (first | apply Kd.R_alloc | apply Kd.R_drewN | apply Kd.R_drew)); exact HO0_2.out) hb); replace HO0_3 := Aside0.mk (Kd.R_below (by (with_reducible repeat (first | apply Kd.R_alloc | apply Kd.R_drewN | apply Kd.R_drew)); exact HO0_3.out) hb); have BK906 := Aside0.mk (hbox); have GW906 := Aside0.mk ((by rw [hg]; exact (by first | exact HK.out.1 | exact (show Kept w _ (fun k_ => P0_0_ k_ ∨ P0_1_ k_ ∨ P0_2_ k_ ∨ P0_3_ k_) from by repeat (first | (with_reducible first | exact HK.out | apply Kept.alloc | apply Kept.drewN | apply Kept.drew) | exact HK.out)).1) : w.heap.size ≤ gb906)); replace HK := Aside0.mk (Kept.below (S := (fun k_ => P0_0_ k_ ∨ P0_1_ k_ ∨ P0_2_ k_ ∨ P0_3_ k_)) z34_1 hb); have GE906 := Aside0.mk ((by rw [hg]; exact (below_size z34_3) : w0.heap.size ≤ gb906)); replace HB := Aside0.mk (below_step z34_3 hb); clear hb hbox hg; have hcz12 := bc4 BK906.out) | ((with_reducible refine gate_callee (f := 15) rfl ?_); refine goesL_ (some 8) rfl rfl Tryz.func15 (by kernel_rfl) rfl #[.slice Ao7 l0_0.length co7, .int .i64 a1] rfl z34_6 ?_; (with_reducible refine (laws_markIntS.calls k (fun k_ => some k_ = (.slice Ao7 l0_0.length co7 : Value).ownBlock) (.slice Ao7 l0_0.length co7) l0_0 a1 t907 t908 w0 _ ?side1 ?side2 A3.out).mono ?_); (case side1 => exact z34_10); (case side2 => exact Kd.R_tight rfl HO0_0.out); rintro e w13 ⟨rfl, hy0, hb, hkp⟩; refine ⟨_, rfl, ?_⟩; replace HO0_1 := Aside0.mk (Kd.R_mono (ok' := fun k_ => ((P0_0_ k_ ∨ P0_1_ k_ ∨ P0_2_ k_ ∨ P0_3_ k_) ∨ w.heap.size ≤ k_)) (Kd.R_keptB ((Kd.R_apart' HO0_1.out (Kd.R_typed HO0_0.out) (by decide))) hkp (fun k_ hk_ hs_ => (hk_.2) hs_)) (fun k_ hk_ => hk_.1.1)); replace HO0_2 := Aside0.mk (Kd.R_mono (ok' := fun k_ => ((P0_0_ k_ ∨ P0_1_ k_ ∨ P0_2_ k_ ∨ P0_3_ k_) ∨ w.heap.size ≤ k_)) (Kd.R_keptB ((Kd.R_apart' HO0_2.out (Kd.R_typed HO0_0.out) (by decide))) hkp (fun k_ hk_ hs_ => (hk_.2) hs_)) (fun k_ hk_ => hk_.1.1)); replace HO0_3 := Aside0.mk (Kd.R_mono (ok' := fun k_ => ((P0_0_ k_ ∨ P0_1_ k_ ∨ P0_2_ k_ ∨ P0_3_ k_) ∨ w.heap.size ≤ k_)) (Kd.R_keptB ((Kd.R_apart' HO0_3.out (Kd.R_typed HO0_0.out) (by decide))) hkp (fun k_ hk_ hs_ => (hk_.2) hs_)) (fun k_ hk_ => hk_.1.1)); replace BK906 := Aside0.mk (blk_kept z34_7 hkp (fun hs_ => (fun e_ => (Kd.R_ne HO0_0.out BK906.out (by decide)) e_) hs_)); replace HK := Aside0.mk (Kept.then_ (S := (fun k_ => P0_0_ k_ ∨ P0_1_ k_ ∨ P0_2_ k_ ∨ P0_3_ k_)) z34_4 hkp (fun k_ hs_ => (fun e_ => (HO0_0.out.1 k_ e_.symm)) hs_)); replace HO0_0 := Aside0.mk (Kd.R_reok rfl hy0 (fun k_ e_ => HO0_0.out.1 k_ e_)); replace HB := Aside0.mk (hb); (try clear hb); (try clear hkp); (try clear hy0); have hcz14 := bc4 BK906.out) | ((with_reducible refine gate_callee (f := 36) rfl ?_); refine goesL_ (some 12) rfl rfl Tryz.func36 (by kernel_rfl) rfl #[.slice Ao8 l0_1.length co8, .int .i64 t907] rfl z34_6 ?_; (with_reducible refine (laws_markTallyS.calls k (fun k_ => some k_ = (.slice Ao8 l0_1.length co8 : Value).ownBlock) (.slice Ao8 l0_1.length co8) l0_1 t907 t909 t910 w0 _ ?side1 ?side2 A4.out).mono ?_); (case side1 => exact z34_10); (case side2 => exact Kd.R_tight rfl HO0_1.out); rintro e w15 ⟨rfl, hy0, hb, hkp⟩; refine ⟨_, rfl, ?_⟩; replace HO0_0 := Aside0.mk (Kd.R_mono (ok' := fun k_ => ((P0_0_ k_ ∨ P0_1_ k_ ∨ P0_2_ k_ ∨ P0_3_ k_) ∨ w.heap.size ≤ k_)) (Kd.R_keptB ((Kd.R_apart' HO0_0.out (Kd.R_typed HO0_1.out) (by decide))) hkp (fun k_ hk_ hs_ => (hk_.2) hs_)) (fun k_ hk_ => hk_.1.1)); replace HO0_2 := Aside0.mk (Kd.R_mono (ok' := fun k_ => ((P0_0_ k_ ∨ P0_1_ k_ ∨ P0_2_ k_ ∨ P0_3_ k_) ∨ w.heap.size ≤ k_)) (Kd.R_keptB ((Kd.R_apart' HO0_2.out (Kd.R_typed HO0_1.out) (by decide))) hkp (fun k_ hk_ hs_ => (hk_.2) hs_)) (fun k_ hk_ => hk_.1.1)); replace HO0_3 := Aside0.mk (Kd.R_mono (ok' := fun k_ => ((P0_0_ k_ ∨ P0_1_ k_ ∨ P0_2_ k_ ∨ P0_3_ k_) ∨ w.heap.size ≤ k_)) (Kd.R_keptB ((Kd.R_apart' HO0_3.out (Kd.R_typed HO0_1.out) (by decide))) hkp (fun k_ hk_ hs_ => (hk_.2) hs_)) (fun k_ hk_ => hk_.1.1)); replace BK906 := Aside0.mk (blk_kept z34_7 hkp (fun hs_ => (fun e_ => (Kd.R_ne HO0_1.out BK906.out (by decide)) e_) hs_)); replace HK := Aside0.mk (Kept.then_ (S := (fun k_ => P0_0_ k_ ∨ P0_1_ k_ ∨ P0_2_ k_ ∨ P0_3_ k_)) z34_4 hkp (fun k_ hs_ => (fun e_ => (HO0_1.out.1 k_ e_.symm)) hs_)); replace HO0_1 := Aside0.mk (Kd.R_reok rfl hy0 (fun k_ e_ => HO0_1.out.1 k_ e_)); replace HB := Aside0.mk (hb); (try clear hb); (try clear hkp); (try clear hy0); have hcz16 := bc4 BK906.out) | ((with_reducible refine gate_callee (f := 37) rfl ?_); refine goesL_ (some 16) rfl rfl Tryz.func37 (by kernel_rfl) rfl #[.slice Ao9 l0_2.length co9, .int .i64 t909] rfl z34_6 ?_; (with_reducible refine (laws_markLiveS.calls k (fun k_ => some k_ = (.slice Ao9 l0_2.length co9 : Value).ownBlock) (.slice Ao9 l0_2.length co9) l0_2 t909 t911 t912 w0 _ ?side1 ?side2 A5.out).mono ?_); (case side1 => exact z34_10); (case side2 => exact Kd.R_tight rfl HO0_2.out); rintro e w17 ⟨rfl, hy0, hb, hkp⟩; refine ⟨_, rfl, ?_⟩; replace HO0_0 := Aside0.mk (Kd.R_mono (ok' := fun k_ => ((P0_0_ k_ ∨ P0_1_ k_ ∨ P0_2_ k_ ∨ P0_3_ k_) ∨ w.heap.size ≤ k_)) (Kd.R_keptB ((Kd.R_apart' HO0_0.out (Kd.R_typed HO0_2.out) (by decide))) hkp (fun k_ hk_ hs_ => (hk_.2) hs_)) (fun k_ hk_ => hk_.1.1)); replace HO0_1 := Aside0.mk (Kd.R_mono (ok' := fun k_ => ((P0_0_ k_ ∨ P0_1_ k_ ∨ P0_2_ k_ ∨ P0_3_ k_) ∨ w.heap.size ≤ k_)) (Kd.R_keptB ((Kd.R_apart' HO0_1.out (Kd.R_typed HO0_2.out) (by decide))) hkp (fun k_ hk_ hs_ => (hk_.2) hs_)) (fun k_ hk_ => hk_.1.1)); replace HO0_3 := Aside0.mk (Kd.R_mono (ok' := fun k_ => ((P0_0_ k_ ∨ P0_1_ k_ ∨ P0_2_ k_ ∨ P0_3_ k_) ∨ w.heap.size ≤ k_)) (Kd.R_keptB ((Kd.R_apart' HO0_3.out (Kd.R_typed HO0_2.out) (by decide))) hkp (fun k_ hk_ hs_ => (hk_.2) hs_)) (fun k_ hk_ => hk_.1.1)); replace BK906 := Aside0.mk (blk_kept z34_7 hkp (fun hs_ => (fun e_ => (Kd.R_ne HO0_2.out BK906.out (by decide)) e_) hs_)); replace HK := Aside0.mk (Kept.then_ (S := (fun k_ => P0_0_ k_ ∨ P0_1_ k_ ∨ P0_2_ k_ ∨ P0_3_ k_)) z34_4 hkp (fun k_ hs_ => (fun e_ => (HO0_2.out.1 k_ e_.symm)) hs_)); replace HO0_2 := Aside0.mk (Kd.R_reok rfl hy0 (fun k_ e_ => HO0_2.out.1 k_ e_)); replace HB := Aside0.mk (hb); (try clear hb); (try clear hkp); (try clear hy0); have hcz18 := bc4 BK906.out) | ((with_reducible refine gate_callee (f := 38) rfl ?_); refine goesL_ (some 20) rfl rfl Tryz.func38 (by kernel_rfl) rfl #[.slice Ao10 l0_3.length co10, .int .i64 t911] rfl z34_6 ?_; (with_reducible refine (laws_markCellS.calls k (fun k_ => some k_ = (.slice Ao10 l0_3.length co10 : Value).ownBlock) (.slice Ao10 l0_3.length co10) l0_3 t911 t913 t914 w0 _ ?side1 ?side2 A6.out).mono ?_); (case side1 => exact z34_10); (case side2 => exact Kd.R_tight rfl HO0_3.out); rintro e w19 ⟨rfl, hy0, hb, hkp⟩; refine ⟨_, rfl, ?_⟩; replace HO0_0 := Aside0.mk (Kd.R_mono (ok' := fun k_ => ((P0_0_ k_ ∨ P0_1_ k_ ∨ P0_2_ k_ ∨ P0_3_ k_) ∨ w.heap.size ≤ k_)) (Kd.R_keptB ((Kd.R_apart' HO0_0.out (Kd.R_typed HO0_3.out) (by decide))) hkp (fun k_ hk_ hs_ => (hk_.2) hs_)) (fun k_ hk_ => hk_.1.1)); replace HO0_1 := Aside0.mk (Kd.R_mono (ok' := fun k_ => ((P0_0_ k_ ∨ P0_1_ k_ ∨ P0_2_ k_ ∨ P0_3_ k_) ∨ w.heap.size ≤ k_)) (Kd.R_keptB ((Kd.R_apart' HO0_1.out (Kd.R_typed HO0_3.out) (by decide))) hkp (fun k_ hk_ hs_ => (hk_.2) hs_)) (fun k_ hk_ => hk_.1.1)); replace HO0_2 := Aside0.mk (Kd.R_mono (ok' := fun k_ => ((P0_0_ k_ ∨ P0_1_ k_ ∨ P0_2_ k_ ∨ P0_3_ k_) ∨ w.heap.size ≤ k_)) (Kd.R_keptB ((Kd.R_apart' HO0_2.out (Kd.R_typed HO0_3.out) (by decide))) hkp (fun k_ hk_ hs_ => (hk_.2) hs_)) (fun k_ hk_ => hk_.1.1)); replace BK906 := Aside0.mk (blk_kept z34_7 hkp (fun hs_ => (fun e_ => (Kd.R_ne HO0_3.out BK906.out (by decide)) e_) hs_)); replace HK := Aside0.mk (Kept.then_ (S := (fun k_ => P0_0_ k_ ∨ P0_1_ k_ ∨ P0_2_ k_ ∨ P0_3_ k_)) z34_4 hkp (fun k_ hs_ => (fun e_ => (HO0_3.out.1 k_ e_.symm)) hs_)); replace HO0_3 := Aside0.mk (Kd.R_reok rfl hy0 (fun k_ e_ => HO0_3.out.1 k_ e_)); replace HB := Aside0.mk (hb); (try clear hb); (try clear hkp); (try clear hy0)))
 go_ret
 exact ⟨z34_8, by (with_reducible repeat (first | apply Kd.R_alloc | apply Kd.R_drewN | apply Kd.R_drew)); exact HO0_0.out, by (with_reducible repeat (first | apply Kd.R_alloc | apply Kd.R_drewN | apply Kd.R_drew)); exact HO0_1.out, by (with_reducible repeat (first | apply Kd.R_alloc | apply Kd.R_drewN | apply Kd.R_drew)); exact HO0_2.out, by (with_reducible repeat (first | apply Kd.R_alloc | apply Kd.R_drewN | apply Kd.R_drew)); exact HO0_3.out, by repeat (first | (with_reducible first | exact HB.out | apply below_alloc | apply pw_below_drewN | apply below_drew1 | refine below_set ?_ GE906.out) | exact HB.out), z34_4⟩
def laws_heldIntS.l0 : Nat → List Int → Int → Int → Option (Int)
  | 0, _, _, _ => none
  | k + 1, x0, x1, x5 => if x5 < (x0.length : Int) then (if 0 ≤ x5 then (if (rd x0 x5) = x1 then (laws_heldIntS.l0 k x0 (wrap64 (x1 + 1)) (wrap64 (x5 + 1))) else (some (-1))) else (none)) else (some x1)
def laws_heldIntS.f (k : Nat) (l0 : List Int) (a1 : Int) : Option (Int) := laws_heldIntS.l0 k l0 a1 0
set_option maxHeartbeats 8000000 in
set_option maxRecDepth 100000 in
theorem laws_heldIntS.calls (k : Nat) (A0 : Option Addr) (c0 : Nat) (l0 : List Int) (a1 : Int) (r : Int) (w : World) (hr0 : Kd.C (Kd.int .i64) w A0 l0.length l0) (hc0 : l0.length ≤ c0) (h : laws_heldIntS.f k l0 a1 = some r) :
  Calls Tryz.prog 17 #[.slice A0 l0.length c0, .int .i64 a1] w fun e w' => e = .returned (.int .i64 r) ∧ Drawn0 w w' := by
 have HR0 := Aside0.mk hr0
 have HC0 := Aside0.mk hc0
 clear hr0 hc0
 have H : (laws_heldIntS.l0 k l0 a1 0) = some r := h
 clear h
 have H' := Aside0.mk H
 clear H
 go_enter Tryz.func17, Tryz.ntmps17
 go_wp2
 go_loopg [1, 5] k (fun kq v1 v5 w' => ∃ (x1_1 : Int) (x5_1 : Int), v1 = .int .i64 x1_1 ∧ v5 = .int .i64 x5_1 ∧ Aside0 (laws_heldIntS.l0 kq l0 x1_1 x5_1 = some r) ∧ Aside0 (kq ≤ k) ∧ Drawn0 w w')
 case atStart => exact ⟨(a1), (0), z34_5, z34_5, H', ⟨Nat.le_refl _⟩, z34_9⟩
 case round =>
  clear H'
  try clear c1
  try clear p2
  obtain ⟨x1_1, x5_1, rfl, rfl, HA, HK1, ⟨m1, rfl⟩⟩ := hrel
  cases gk with
  | zero => exact absurd HA.out (by simp [laws_heldIntS.l0])
  | succ k1 =>
   have H := HA.out
   clear HA
   simp only [laws_heldIntS.l0] at H
   by_cases c3 : x5_1 < (l0.length : Int)
   rotate_left
   ·
    rw [if_neg c3] at H
    have c3b0 : decide (x5_1 < (l0.length : Int)) = false := decide_eq_false c3
    clear c3
    obtain rfl := Option.some.inj H
    go_wp2
    go_ret
    exact ⟨z34_5, z34_9⟩
   rw [if_pos c3] at H
   have c3b0 : decide (x5_1 < (l0.length : Int)) = true := decide_eq_true c3
   clear c3
   by_cases c4 : 0 ≤ x5_1
   rotate_left
   ·
    rw [if_neg c4] at H
    exact absurd H (by simp)
   rw [if_pos c4] at H
   have c4b0 : decide (0 ≤ x5_1) = true := decide_eq_true c4
   clear c4
   by_cases c5 : (rd l0 x5_1) = x1_1
   rotate_left
   ·
    rw [if_neg c5] at H
    have c5b0 : ((rd l0 x5_1) == x1_1) = false := beq_eq_false_iff_ne.mpr c5
    have c5b1 : ((rd l0 x5_1) != x1_1) = true := bne_iff_ne.mpr c5
    obtain rfl := Option.some.inj H
    have p915 : 0 ≤ (x5_1 : Int) := of_decide_eq_true z34_0
    have q915 : x5_1 < (l0.length : Int) := of_decide_eq_true z34_0
    obtain ⟨ad915, e915, hx915_0⟩ := Kd.at_int HR0.out x5_1 p915 q915
    cases e915
    replace p915 := eq_true p915
    replace q915 := eq_true q915
    go_wp2
    go_ret
    exact ⟨z34_5, z34_9⟩
   rw [if_pos c5] at H
   have c5b0 : ((rd l0 x5_1) == x1_1) = true := beq_iff_eq.mpr c5
   have c5b1 : ((rd l0 x5_1) != x1_1) = false := bne_eq_false_iff_eq.mpr c5
   clear c5
   have H' := Aside0.mk H
   clear H
   have p915 : 0 ≤ (x5_1 : Int) := of_decide_eq_true z34_0
   have q915 : x5_1 < (l0.length : Int) := of_decide_eq_true z34_0
   obtain ⟨ad915, e915, hx915_0⟩ := Kd.at_int HR0.out x5_1 p915 q915
   cases e915
   replace p915 := eq_true p915
   replace q915 := eq_true q915
   go_wp2
   go_roundg k1
   case measure => have := HK1.out; omega
   case rel => exact ⟨(wrap64 (x1_1 + 1)), (wrap64 (x5_1 + 1)), z34_5, z34_5, H', ⟨by have := HK1.out; omega⟩, z34_9⟩
end Go.Proofs.YtbanogkoaplcdaaGreat.QDa
