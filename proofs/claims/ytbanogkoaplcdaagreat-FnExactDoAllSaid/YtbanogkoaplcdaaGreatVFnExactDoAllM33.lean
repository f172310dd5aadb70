/- Parts of the proof of FnExactDoAll, one behind the other. No condition. -/
import Derived.Test.YtbanogkoaplcdaaGreatVFnExactDoAllM2
namespace Go.Proofs.YtbanogkoaplcdaaGreat.QDa
open Go.RowKit Go.Proofs.YtbanogkoaplcdaaGreatW.PrintWords Go.Proofs.YtbanogkoaplcdaaGreatW.PrintLast Go.Proofs.YtbanogkoaplcdaaGreatW.PrintMore
set_option linter.unusedVariables false
set_option linter.unusedSimpArgs false
theorem gEqDot (d : Nat) (w : World) (x0 y0 : Int) (x1 y1 : Int) :
    (Op.equalIn (d + 2) 59 (.agg #[.int .i64 x0, .int .i64 x1]) (.agg #[.int .i64 y0, .int .i64 y1])).run Tryz.prog w = .ok (x0 == y0 && (x1 == y1)) w := by
  refine eqA_of Tryz.underlying59 (by kernel_rfl) ?_
  refine eqf_cons (by rfl) (by go_simp; rfl) (by go_simp; rfl) (by go_simp) ?_
  exact eqf_last (by rfl) (by go_simp; rfl) (by go_simp; rfl) (by go_simp)
attribute [local go_sem high] gEqDot
def gCellIx (a b : Int) : List S96 → Int → Int
  | [], _ => -1
  | x :: l, i => if (x.f1.f0 == a && (x.f1.f1 == b)) = true then i else gCellIx a b l (i + 1)
set_option maxHeartbeats 4000000 in
theorem cellPred (a b : Int) (B : Nat) (w : World) (hB : B < w.heap.size) (h0 : w.cell? ⟨B, 0, none⟩ = some (.int .i64 a)) (h1 : w.cell? ⟨B, 1, none⟩ = some (.int .i64 b)) (x : S96) :
    Calls Tryz.prog 92 #[.agg #[.string x.f0, .int .i64 x.f1.f0, .int .i64 x.f1.f1, .int .i64 x.f2, .int .i64 x.f3.f0, .int .i64 x.f3.f1, .int .i64 x.f4, .bool x.f5], .pointer (some ⟨B, 0, none⟩)] w
      fun e w' => e = .returned (.bool (x.f1.f0 == a && (x.f1.f1 == b))) ∧ Below w.heap.size w w' := by
  have hu := Tryz.underlying96
  have hne : B ≠ w.heap.size := by omega
  go_enter Tryz.func92, Tryz.ntmps92
  go_wp2
  go_ret
  exact ⟨rfl, (Below.refl _ w).alloc (Nat.le_refl _) _⟩
set_option maxHeartbeats 8000000 in
set_option maxRecDepth 100000 in
theorem indexFunc_cells (a b : Int) (B : Nat) (A : Option Addr) (c : Nat) (l : List S96) (w : World) (hB : B < w.heap.size) (h0 : w.cell? ⟨B, 0, none⟩ = some (.int .i64 a)) (h1 : w.cell? ⟨B, 1, none⟩ = some (.int .i64 b))
    (hr : Kd.C k96 w A l.length l) (hc : l.length ≤ c) (hl : l.length ≤ 4611686018427387904) :
    Calls Tryz.prog 91 #[.slice A l.length c, .func (.func 92) #[] #[.pointer (some ⟨B, 0, none⟩)]] w
      fun e w' => e = .returned (.int .i64 (gCellIx a b l 0)) ∧ Below w.heap.size w w' := by
  have HR := Aside0.mk hr
  have H0 := Aside0.mk h0
  have H1 := Aside0.mk h1
  clear hr h0 h1
  go_enter Tryz.func91, Tryz.ntmps91
  go_wp2
  go_loopg [5, 8] l.length (fun gg _ s8 wr => ∃ kk : Nat, kk ≤ l.length ∧ l.length - kk ≤ gg ∧ s8 = .int .i64 kk ∧ Aside0 (Below w.heap.size w wr) ∧ Aside0 (gCellIx a b l 0 = gCellIx a b (l.drop kk) kk))
  case atStart => exact ⟨0, Nat.zero_le _, by omega, rfl, ⟨Below.refl _ w⟩, ⟨by simp⟩⟩
  case round =>
    obtain ⟨kk, hkk, hg, rfl, BW, AX⟩ := hrel
    by_cases hlt : kk < l.length
    · have hltz : (kk : Int) < (l.length : Int) := by omega
      have hk0 : (0 : Int) ≤ (kk : Int) := by omega
      obtain ⟨ad, e, hx0, hx1, hx2, hx3, hx4, hx5, hx6, hx7⟩ := at_T96 (Kd.C_below HR.out BW.out) (kk : Int) hk0 hltz
      cases e
      simp only [Int.toNat_natCast] at hx0 hx1 hx2 hx3 hx4 hx5 hx6 hx7
      have hcall := cellPred a b B wr (Nat.lt_of_lt_of_le hB BW.out.size) ((BW.out.cell (p := ⟨B, 0, none⟩) hB).trans H0.out) ((BW.out.cell (p := ⟨B, 1, none⟩) hB).trans H1.out) (rd_T96 l (kk : Int))
      have AY : Aside0 (gCellIx a b (l.drop kk) kk = if ((rd_T96 l (kk : Int)).f1.f0 == a && ((rd_T96 l (kk : Int)).f1.f1 == b)) = true then (kk : Int) else gCellIx a b (l.drop (kk + 1)) ((kk : Int) + 1)) := ⟨by
        rw [List.drop_eq_getElem_cons hlt]
        simp [gCellIx, rd_T96, List.getElem?_eq_getElem hlt]⟩
      cases hq : ((rd_T96 l (kk : Int)).f1.f0 == a && ((rd_T96 l (kk : Int)).f1.f1 == b) : Bool) with
      | true =>
        rw [hq] at hcall AY
        clear hq
        go_wp2_with (go_at_call 92; (with_reducible refine hcall.mono ?_); rintro e w' ⟨rfl, hb'⟩; clear hcall)
        go_ret
        refine ⟨?_, BW.out.trans (hb'.mono BW.out.size)⟩
        rw [AX.out, AY.out]; rfl
      | false =>
        rw [hq] at hcall AY
        clear hq
        go_wp2_with (go_at_call 92; (with_reducible refine hcall.mono ?_); rintro e w' ⟨rfl, hb'⟩; clear hcall)
        go_roundg (l.length - (kk + 1))
        case measure => omega
        case rel =>
          exact ⟨kk + 1, by omega, by omega, by go_num, ⟨BW.out.trans (hb'.mono BW.out.size)⟩, ⟨by rw [AX.out, AY.out]; simp⟩⟩
    · have hltz : ¬ (kk : Int) < (l.length : Int) := by omega
      have : kk = l.length := by omega
      subst this
      go_wp2
      go_ret
      refine ⟨?_, BW.out⟩
      rw [AX.out, List.drop_eq_nil_of_le (Nat.le_refl _)]; rfl
def impl_CellAt.f (l0_0 : List Int) (l0_1 : List (S90)) (l0_2 : List (S93)) (l0_3 : List (S96)) (a1_0 : Int) (a1_1 : Int) : Option (Int) := if l0_3.length ≤ 4611686018427387904 then some (gCellIx a1_0 a1_1 l0_3 0) else none
set_option maxHeartbeats 8000000 in
set_option maxRecDepth 100000 in
theorem impl_CellAt.calls (A0_0 : Option Addr) (c0_0 : Nat) (l0_0 : List Int) (A0_1 : Option Addr) (c0_1 : Nat) (l0_1 : List (S90)) (A0_2 : Option Addr) (c0_2 : Nat) (l0_2 : List (S93)) (A0_3 : Option Addr) (c0_3 : Nat) (l0_3 : List (S96)) (a1_0 : Int) (a1_1 : Int) (r : Int) (w : World) (hr0_0 : Kd.C (Kd.int .i64) w A0_0 l0_0.length l0_0) (hc0_0 : l0_0.length ≤ c0_0) (hr0_1 : Kd.C k90 w A0_1 l0_1.length l0_1) (hc0_1 : l0_1.length ≤ c0_1) (hr0_2 : Kd.C k93 w A0_2 l0_2.length l0_2) (hc0_2 : l0_2.length ≤ c0_2) (hr0_3 : Kd.C k96 w A0_3 l0_3.length l0_3) (hc0_3 : l0_3.length ≤ c0_3) (h : impl_CellAt.f l0_0 l0_1 l0_2 l0_3 a1_0 a1_1 = some r) :
    Calls Tryz.prog 61 #[.agg #[.slice A0_0 l0_0.length c0_0, .slice A0_1 l0_1.length c0_1, .slice A0_2 l0_2.length c0_2, .slice A0_3 l0_3.length c0_3], .agg #[.int .i64 a1_0, .int .i64 a1_1]] w fun e w' => e = .returned (.int .i64 r) ∧ Below w.heap.size w w' := by
  have hu := Tryz.underlying35
  unfold impl_CellAt.f at h
  by_cases hl : l0_3.length ≤ 4611686018427387904
  · rw [if_pos hl] at h
    obtain rfl := Option.some.inj h
    clear hr0_0 hr0_1 hr0_2 h
    have b2 : Below w.heap.size w ((w.alloc (.cells #[.slice A0_0 l0_0.length c0_0, .slice A0_1 l0_1.length c0_1, .slice A0_2 l0_2.length c0_2, .slice A0_3 l0_3.length c0_3] 35)).alloc (.cells #[.int .i64 a1_0, .int .i64 a1_1] 59)) := ((Below.refl _ w).alloc (Nat.le_refl _) _).alloc (by simp) _
    have hcall := indexFunc_cells a1_0 a1_1 (w.heap.size + 1) A0_3 c0_3 l0_3 ((w.alloc (.cells #[.slice A0_0 l0_0.length c0_0, .slice A0_1 l0_1.length c0_1, .slice A0_2 l0_2.length c0_2, .slice A0_3 l0_3.length c0_3] 35)).alloc (.cells #[.int .i64 a1_0, .int .i64 a1_1] 59)) (by simp) (by simp) (by simp) (Kd.C_below hr0_3 b2) hc0_3 hl
    have B2 := Aside0.mk b2
    clear hr0_3 b2
    go_enter Tryz.func61, Tryz.ntmps61
    go_wp2_with (go_at_call 91; refine hcall.mono ?_; rintro e w' ⟨rfl, hb'⟩)
    go_ret
    exact ⟨rfl, B2.out.trans (hb'.mono (by simp; omega))⟩
  · rw [if_neg hl] at h; cases h
end Go.Proofs.YtbanogkoaplcdaaGreat.QDa
