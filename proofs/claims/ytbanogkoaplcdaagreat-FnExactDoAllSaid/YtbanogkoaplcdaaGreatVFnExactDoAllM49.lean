/- Parts of the proof of FnExactDoAll, one behind the other. No condition. -/
import Derived.Test.YtbanogkoaplcdaaGreatVFnExactDoAllM6
namespace Go.Proofs.YtbanogkoaplcdaaGreat.QDa
open Go.RowKit Go.Proofs.YtbanogkoaplcdaaGreat.Reg12 Go.Proofs.YtbanogkoaplcdaaGreat.Reg11 Go.Proofs.YtbanogkoaplcdaaGreat.Reg10 Go.Proofs.YtbanogkoaplcdaaGreat.Reg9 Go.Proofs.YtbanogkoaplcdaaGreat.Lock Go.Proofs.YtbanogkoaplcdaaGreat.Auto Go.Proofs.YtbanogkoaplcdaaGreat.Short Go.Proofs.YtbanogkoaplcdaaGreatW.PrintWords Go.Proofs.YtbanogkoaplcdaaGreatW.PrintLast Go.Proofs.YtbanogkoaplcdaaGreatW.PrintMore
set_option linter.unusedVariables false
set_option linter.unusedSimpArgs false
def laws_toActS.l0 : Nat → List (S55) → List (S61) → Int → Option (List (S61))
  | 0, _, _, _ => none
  | k + 1, l, o, i => if i < (l.length : Int) then (if 0 ≤ i then ((laws_toAct.f k (rd_T55 l i).f0.f0 (rd_T55 l i).f0.f1 (rd_T55 l i).f1 (rd_T55 l i).f2 (rd_T55 l i).f3 (rd_T55 l i).f4 (rd_T55 l i).f5 (rd_T55 l i).f6 (rd_T55 l i).f7.f0 (rd_T55 l i).f7.f1).bind fun b => (laws_toActS.l0 k l (o.set i.toNat (⟨⟨b.1, b.2.1⟩, b.2.2.1, b.2.2.2.1, b.2.2.2.2.1, b.2.2.2.2.2.1, b.2.2.2.2.2.2.1, b.2.2.2.2.2.2.2.1, ⟨b.2.2.2.2.2.2.2.2.1, b.2.2.2.2.2.2.2.2.2⟩⟩ : S61)) (wrap64 (i + 1)))) else none) else some o
def laws_toActS.f (k : Nat) (l : List (S55)) : Option (List (S61)) := if l.length ≤ 2513169434916 then laws_toActS.l0 k l (List.replicate l.length z61) 0 else none
set_option maxHeartbeats 8000000 in
set_option maxRecDepth 100000 in
theorem laws_toActS.calls (k : Nat) (A0 : Option Addr) (c0 : Nat) (l0 : List (S55)) (r : List (S61)) (w : World) (hr0 : Kd.C k55 w A0 l0.length l0) (hc0 : l0.length ≤ c0) (h : laws_toActS.f k l0 = some r) :
  Calls Tryz.prog 8 #[.slice A0 l0.length c0] w fun e w' => ∃ v0_ : Value, e = .returned (v0_) ∧ Kd.S k61 61 w' w.heap.size (fun _ => True) v0_ r ∧ Below w.heap.size w w' := by
 have hu55 := Tryz.underlying55
 have hu61 := Tryz.underlying61
 have HR0 := Aside0.mk hr0
 have HC0 := Aside0.mk hc0
 have HB := Aside0.mk (Below.refl w.heap.size w)
 unfold laws_toActS.f at h
 clear hr0 hc0
 by_cases c : l0.length ≤ 2513169434916
 rotate_left
 · rw [if_neg c] at h
   cases h
 rw [if_pos c] at h
 have H' := Aside0.mk h
 clear h
 go_enter Tryz.func8, Tryz.ntmps8
 go_wp2_with (first | ((with_reducible refine gate_dst (N := 7) rfl ?_); refine Kd.S_make k61 _ 61 rfl (N := 7) rfl 39 _ _ rfl (l0.length : Int) rfl rfl Tryz.underlying39 (.agg #[(.int .i64 0), (.int .i64 0), (.int .i64 0), (.slice none 0 0), (.int .i64 0), (.string ⟨#[]⟩), (.string ⟨#[]⟩), (.int .i64 0), (.int .i64 0), (.int .i64 0)]) 112 info61 rfl (by decide) (by omega) z61 (ok := fun _ => True) (okp := fun _ => True) (k61_mkM _ _ _ z61 (Kd.R_nil _ _ _ _ _)) (fun _ hk => hk) trivial (by omega) (by omega) (Below.refl _ _) (Nat.le_refl _) ?_; intro v w4 ho hb hg_ hnew_; clear hg_ hnew_; simp only [Int.toNat_natCast] at ho; have HO := Aside0.mk (Kd.S_lower ho HB.out.size); replace HB := Aside0.mk (below_step HB.out hb); clear hb ho))
 obtain ⟨A, cap, e0⟩ := Kd.S_slice HO.out
 rw [List.length_replicate] at e0
 subst e0
 go_loopg [4] k (fun kq v4 w' => ∃ (o : List (S61)) (x : Int), v4 = .int .i64 x ∧ Aside0 (laws_toActS.l0 kq l0 o x = some r) ∧ Aside0 (kq ≤ k) ∧ Aside0 (Kd.S k61 61 w' w.heap.size (fun _ => True) (.slice A l0.length cap) o) ∧ Aside0 (o.length = l0.length) ∧ Aside0 (Below w.heap.size w w'))
 case atStart => exact ⟨_, 0, rfl, H', ⟨Nat.le_refl _⟩, ⟨HO.out⟩, ⟨List.length_replicate⟩, ⟨HB.out⟩⟩
 case round =>
  clear H' HO HB c
  obtain ⟨o, x, rfl, HA, HK1, HO, HL, HB⟩ := hrel
  cases gk with
  | zero => exact absurd HA.out (by simp [laws_toActS.l0])
  | succ k1 =>
   have H := HA.out
   clear HA
   simp only [laws_toActS.l0] at H
   replace H := ite_lt H
   rcases H with ⟨c, H⟩ | ⟨c, H⟩
   rotate_left
   ·
    obtain rfl := Option.some.inj H
    go_wp2
    go_ret
    exact ⟨_, rfl, HO.out, HB.out⟩
   replace H := ite_le H
   rcases H with ⟨c', H⟩ | ⟨c', H⟩
   rotate_left
   · exact none_o H
   replace H := bind_o H
   obtain ⟨b, AB, H⟩ := H
   (try dsimp only at H)
   have H' := Aside0.mk H
   clear H
   have hl := of_decide_eq_true c
   have hl' := of_decide_eq_true c'
   obtain ⟨g, cp, e0, _, hgl, _⟩ := Kd.S_form HO.out (by have := HL.out; omega)
   obtain rfl : A = some ⟨g, 0, none⟩ := by injection e0
   clear e0 cp
   have p := eqt c
   have p' := eqt c'
   have SB := Aside0.mk (Kd.S_base HO.out g rfl)
   obtain ⟨ad, A3, c3, e, hx0, hx1, hx2, hx3, hx4, hx5, hx6, hx7, hx8, hx9, hl3, hi3⟩ := at_T55 (Kd.C_below HR0.out HB.out) x hl' hl
   cases e
   go_wp2_with (first
    | (go_at_call 29; refine (laws_toAct.calls k1 _ _ _ _ _ _ _ _ _ _ _ _ b.1 b.2.1 b.2.2.1 b.2.2.2.1 b.2.2.2.2.1 b.2.2.2.2.2.1 b.2.2.2.2.2.2.1 b.2.2.2.2.2.2.2.1 b.2.2.2.2.2.2.2.2.1 b.2.2.2.2.2.2.2.2.2 _ hi3 hl3 AB.out).mono ?_; rintro e w' ⟨v3, rfl, ho, hb⟩; obtain ⟨A5, c5, rfl⟩ := Kd.R_slice ho; have RO := Aside0.mk (Kd.R_mono (Kd.R_lower (Kd.R_bound ho) HB.out.size) (fun k hk => hk.2.1)); have SO := Aside0.mk (Kd.S_old HO.out hb); replace HB := Aside0.mk (below_step HB.out hb); clear ho hb HO)
    | ((with_reducible refine gate_no rfl ?_); refine stO_ (x' := ⟨⟨b.1, b.2.1⟩, b.2.2.1, b.2.2.2.1, b.2.2.2.2.1, b.2.2.2.2.2.1, b.2.2.2.2.2.2.1, b.2.2.2.2.2.2.2.1, ⟨b.2.2.2.2.2.2.2.2.1, b.2.2.2.2.2.2.2.2.2⟩⟩) z61 SO.out hgl hl' hl (k61_mkM _ _ _ ⟨⟨b.1, b.2.1⟩, b.2.2.1, b.2.2.2.1, b.2.2.2.2.1, b.2.2.2.2.2.1, b.2.2.2.2.2.2.1, b.2.2.2.2.2.2.2.1, ⟨b.2.2.2.2.2.2.2.2.1, b.2.2.2.2.2.2.2.2.2⟩⟩ RO.out) rfl rfl (by first | rfl | (simp; rfl)) rfl rfl rfl (fun q hq => one10 rfl hq) rfl ?_; intro w1 hS hG; replace HB := Aside0.mk (below_grow HB.out hG SB.out HB.out.size); have HO := Aside0.mk hS; clear hS hG SO RO)
    )
   go_roundg k1
   case measure => have := HK1.out; omega
   case rel => exact ⟨_, _, rfl, H', ⟨by have := HK1.out; omega⟩, ⟨HO.out⟩, ⟨by rw [List.length_set]; exact HL.out⟩, ⟨HB.out⟩⟩
end Go.Proofs.YtbanogkoaplcdaaGreat.QDa
