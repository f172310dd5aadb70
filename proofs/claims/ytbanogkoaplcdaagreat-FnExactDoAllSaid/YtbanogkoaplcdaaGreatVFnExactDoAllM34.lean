/- Parts of the proof of FnExactDoAll, one behind the other. No condition. -/
import Derived.Test.YtbanogkoaplcdaaGreatVFnExactDoAllM2
import Derived.Maps.Own
import Derived.Maps.OwnSet
import Derived.Maps.Views
import Derived.DeepKeys4
import Derived.Carry
namespace Go.Proofs.YtbanogkoaplcdaaGreat.QDa
open Go.RowKit Go.Maps Go.Proofs.YtbanogkoaplcdaaGreatW.PrintWords Go.Proofs.YtbanogkoaplcdaaGreatW.PrintLast Go.Proofs.YtbanogkoaplcdaaGreatW.PrintMore
set_option linter.unusedVariables false
set_option linter.unusedSimpArgs false
theorem rEqDot (d : Nat) (w : World) (x0 y0 : Int) (x1 y1 : Int) :
    (Op.equalIn (d + 2) 59 (.agg #[.int .i64 x0, .int .i64 x1]) (.agg #[.int .i64 y0, .int .i64 y1])).run Tryz.prog w = .ok (x0 == y0 && (x1 == y1)) w := by
  refine eqA_of Tryz.underlying59 (by kernel_rfl) ?_
  refine eqf_cons (by rfl) (by go_simp; rfl) (by go_simp; rfl) (by go_simp) ?_
  exact eqf_last (by rfl) (by go_simp; rfl) (by go_simp; rfl) (by go_simp)
attribute [local go_sem high] rEqDot
theorem rLaid : laidOutB Tryz.prog = true := by kernel_rfl
theorem rRow : (59 : TypeId) < Tryz.prog.types.size := of_decide_eq_true (by kernel_rfl)
theorem rWide : (match Tryz.prog.underlying 59 with | some (.array _ _) | some (.struct _) => true | _ => false) = true := by rw [Tryz.underlying59]
set_option maxRecDepth 100000 in
theorem rLaw : Keyed Tryz.prog 59 := Keyed.of_law (deep_law_laid rLaid (m := 2) (by omega) rRow (by kernel_rfl) rWide)
def dotLit (a b : Int) : Lit := .string (keyBytes [.int .i64 a, .int .i64 b])
theorem rTypes : ∃ n, Tryz.prog.types.size = n + 1 := by
  have h : (59 : Nat) < Tryz.prog.types.size := rRow
  exact ⟨Tryz.prog.types.size - 1, by omega⟩
theorem key_dot {a b : Int} (ha : (Lit.int .i64 a).wf = true) (hb : (Lit.int .i64 b).wf = true) : keyOf Tryz.prog 59 (.agg #[.int .i64 a, .int .i64 b]) = some (dotLit a b) := by
  have h1 : Tryz.prog.keyType 59 = true := by kernel_rfl
  have h2 : Tryz.prog.cellsOf 59 = 2 := by kernel_rfl
  have h3 : Tryz.prog.cellsOf 3 = 1 := by kernel_rfl
  obtain ⟨n, hn⟩ := rTypes
  have hf : Value.formed Tryz.prog 59 (.agg #[.int .i64 a, .int .i64 b]) = true := by simp [Value.formed, Tryz.underlying59, h2]
  have e : Tryz.prog.keyLits (Tryz.prog.types.size + 1) 59 [.int .i64 a, .int .i64 b] = some [.int .i64 a, .int .i64 b] := by
    rw [hn]
    simp [Program.keyLits, Tryz.underlying59, Tryz.underlying3, h2, h3, ha, hb]
  unfold keyOf
  rw [Tryz.underlying59]
  simp only [h1, hf, Bool.and_self, if_true]
  rw [show (Value.cells (.agg #[.int .i64 a, .int .i64 b])).toList = [.int .i64 a, .int .i64 b] from rfl, e]
  rfl
theorem dotLit_inj {a b c d : Int} (ha : (Lit.int .i64 a).wf = true) (hb : (Lit.int .i64 b).wf = true) (hc : (Lit.int .i64 c).wf = true) (hd : (Lit.int .i64 d).wf = true) (h : dotLit a b = dotLit c d) : a = c ∧ b = d := by
  have := rLaw.inj (key_dot ha hb) (h ▸ key_dot hc hd)
  simpa using this
theorem dotLit_key {a b : Int} (ha : (Lit.int .i64 a).wf = true) (hb : (Lit.int .i64 b).wf = true) : WideAt.IsKeyLit (dotLit a b) := rLaw.key (key_dot ha hb)
def lastIx (a b : Int) (l : List S96) : Nat → Int
  | 0 => -1
  | n + 1 => if ((rd_T96 l (n : Int)).f1.f0 == a && ((rd_T96 l (n : Int)).f1.f1 == b)) = true then (n : Int) else lastIx a b l n
theorem lastIx_lt (a b : Int) (l : List S96) : ∀ n, lastIx a b l n < (n : Int)
  | 0 => by simp [lastIx]
  | n + 1 => by
    have := lastIx_lt a b l n
    unfold lastIx
    split <;> omega
def MapIs (l : List S96) (B n : Nat) (w : World) : Prop := ∃ D : DataW Unit, w.ownsMap Tryz.prog 59 (plainElem Tryz.prog 3) B n D ∧ IsMap D ∧
  ∀ a b : Int, (Lit.int .i64 a).wf = true → (Lit.int .i64 b).wf = true → Maps.has D (dotLit a b) = decide (0 ≤ lastIx a b l n) ∧ (0 ≤ lastIx a b l n → ∀ z, D.atKey (dotLit a b) z = .lit (.int .i64 (lastIx a b l n)))
def cellWf (x : S96) : Bool := (Lit.int .i64 x.f1.f0).wf && (Lit.int .i64 x.f1.f1).wf && ((Lit.int .i64 x.f3.f0).wf && (Lit.int .i64 x.f3.f1).wf)
theorem cellWf_of {x : S96} (h : cellWf x = true) : ((Lit.int .i64 x.f1.f0).wf = true ∧ (Lit.int .i64 x.f1.f1).wf = true) ∧ ((Lit.int .i64 x.f3.f0).wf = true ∧ (Lit.int .i64 x.f3.f1).wf = true) := by simpa [cellWf] using h
theorem mapIs_put {l : List S96} {n : Nat} {D : DataW Unit} (hI : IsMap D) (hn : (Lit.int .i64 (n : Int)).wf = true) (hwa : (Lit.int .i64 (rd_T96 l (n : Int)).f1.f0).wf = true) (hwb : (Lit.int .i64 (rd_T96 l (n : Int)).f1.f1).wf = true)
    (hD : ∀ a b : Int, (Lit.int .i64 a).wf = true → (Lit.int .i64 b).wf = true → Maps.has D (dotLit a b) = decide (0 ≤ lastIx a b l n) ∧ (0 ≤ lastIx a b l n → ∀ z, D.atKey (dotLit a b) z = .lit (.int .i64 (lastIx a b l n))))
    (a b : Int) (ha : (Lit.int .i64 a).wf = true) (hb : (Lit.int .i64 b).wf = true) :
    Maps.has (D.put (dotLit (rd_T96 l (n : Int)).f1.f0 (rd_T96 l (n : Int)).f1.f1) (.lit (.int .i64 (n : Int)))) (dotLit a b) = decide (0 ≤ lastIx a b l (n + 1)) ∧
      (0 ≤ lastIx a b l (n + 1) → ∀ z, (D.put (dotLit (rd_T96 l (n : Int)).f1.f0 (rd_T96 l (n : Int)).f1.f1) (.lit (.int .i64 (n : Int)))).atKey (dotLit a b) z = .lit (.int .i64 (lastIx a b l (n + 1)))) := by
  by_cases e : (rd_T96 l (n : Int)).f1.f0 = a ∧ (rd_T96 l (n : Int)).f1.f1 = b
  · obtain ⟨rfl, rfl⟩ := e
    have hl : lastIx (rd_T96 l (n : Int)).f1.f0 (rd_T96 l (n : Int)).f1.f1 l (n + 1) = (n : Int) := by simp [lastIx]
    rw [hl]
    exact ⟨by rw [has_put_same hI (dotLit_key hwa hwb)]; simp, fun _ z => atKey_put_same hI (dotLit_key hwa hwb) _ z⟩
  · have hl : lastIx a b l (n + 1) = lastIx a b l n := by
      unfold lastIx
      rw [if_neg (by simpa using fun h1 h2 => e ⟨h1, h2⟩)]
      cases n <;> rfl
    have hne : dotLit a b ≠ dotLit (rd_T96 l (n : Int)).f1.f0 (rd_T96 l (n : Int)).f1.f1 := fun h => e (by have := dotLit_inj ha hb hwa hwb h; exact ⟨this.1.symm, this.2.symm⟩)
    rw [hl]
    exact ⟨by rw [has_put_other hne]; exact (hD a b ha hb).1, fun h z => by rw [atKey_put_other hne]; exact (hD a b ha hb).2 h z⟩
section
variable {P : Program} (w : World) {ops : Array Oper} {rest : List Oper} {o : Oper} {a : Act} {Q : Exit → Act → World → Prop}
theorem wpList_lookup_hit (hg : o.guard = none) (m x : Operand) (t : TypeId) (hop : o.op = Op.lookup t m x true)
    (k e : TypeId) (q : IntKind) (K : Keyed P k) (ht : P.underlying t = some (.map k e)) (he : P.underlying e = some (.int q)) (hz : (zeroValue e).run P w = .ok (.int q 0) w) (b n : Nat) (D : DataW Unit)
    (hm : a.eval m = .map (some b)) (hown : w.ownsMap P k (plainElem P e) b n D) (key : Value) (kl : Lit) (hx : a.eval x = key) (hkey : keyOf P k key = some kl)
    (j : Int) (hj : D.atKey kl (.lit (.int q 0)) = .lit (.int q j)) (hh : Maps.has D kl = true)
    (hK : wpList P ops Q rest (a.put o.dst (.tuple #[.int q j, .bool true])) w) : wpList P ops Q (o :: rest) a w :=
  wpList_lookup_own_ok_int w hg m x t hop k e q K ht he hz b n D hm hown key kl hx hkey (fun c hat _ => by
    rw [hj] at hat
    injection hat with hat
    injection hat with _ hat
    rw [← hat, hh]; exact hK)
theorem wpList_lookup_miss (hg : o.guard = none) (m x : Operand) (t : TypeId) (hop : o.op = Op.lookup t m x true)
    (k e : TypeId) (q : IntKind) (K : Keyed P k) (ht : P.underlying t = some (.map k e)) (he : P.underlying e = some (.int q)) (hz : (zeroValue e).run P w = .ok (.int q 0) w) (b n : Nat) (D : DataW Unit)
    (hm : a.eval m = .map (some b)) (hown : w.ownsMap P k (plainElem P e) b n D) (key : Value) (kl : Lit) (hx : a.eval x = key) (hkey : keyOf P k key = some kl)
    (hh : Maps.has D kl = false)
    (hK : wpList P ops Q rest (a.put o.dst (.tuple #[.int q 0, .bool false])) w) : wpList P ops Q (o :: rest) a w :=
  wpList_lookup_own_ok_int w hg m x t hop k e q K ht he hz b n D hm hown key kl hx hkey (fun c hat _ => by
    rw [atKey_of_not_has hh] at hat
    injection hat with hat
    injection hat with _ hat
    rw [← hat, hh]; exact hK)
end
def refOkB (l : List S96) (x : S96) : Bool :=
  if (x.f3.f0 == 0 && (x.f3.f1 == 0)) = true then true else
  if 0 ≤ lastIx x.f3.f0 x.f3.f1 l l.length then ((rd_T96 l (lastIx x.f3.f0 x.f3.f1 l l.length)).f0.toList == x.f0.toList && decide ((rd_T96 l (lastIx x.f3.f0 x.f3.f1 l l.length)).f2 < x.f2)) else false
def impl_refsOk.f (l0 : List S96) : Option Bool := if l0.length ≤ 4611686018427387904 ∧ l0.all cellWf = true then some (l0.all (refOkB l0)) else none
set_option maxHeartbeats 8000000 in
set_option maxRecDepth 100000 in
theorem impl_refsOk.calls (A0 : Option Addr) (c0 : Nat) (l0 : List S96) (r : Bool) (w : World) (hr0 : Kd.C k96 w A0 l0.length l0) (hc0 : l0.length ≤ c0) (h : impl_refsOk.f l0 = some r) :
    Calls Tryz.prog 87 #[.slice A0 l0.length c0] w fun e w' => e = .returned (.bool r) ∧ Below w.heap.size w w' := by
  have hu := Tryz.underlying96
  have HR := Aside0.mk hr0
  clear hr0
  unfold impl_refsOk.f at h
  by_cases hl : l0.length ≤ 4611686018427387904 ∧ l0.all cellWf = true
  rotate_left
  · rw [if_neg hl] at h; cases h
  rw [if_pos hl] at h
  have hr := Option.some.inj h
  clear h
  obtain ⟨hl, hwf⟩ := hl
  have HWF : Aside0 (∀ kk : Nat, kk < l0.length → cellWf (rd_T96 l0 (kk : Int)) = true) := ⟨fun kk hk => List.all_eq_true.1 hwf _ (by
    unfold rd_T96
    rw [Int.toNat_natCast, List.getD_eq_getElem?_getD, List.getElem?_eq_getElem hk]
    exact List.getElem_mem _)⟩
  have HRR := Aside0.mk hr
  clear hwf hr
  have hmm := @run_makeMap Tryz.prog
  go_enter Tryz.func87, Tryz.ntmps87
  go_wp2
  have BM : Aside0 (Below w.heap.size w (w.alloc (.map #[] 0))) := ⟨(Below.refl _ w).alloc (Nat.le_refl _) _⟩
  go_loopg [13] l0.length (fun gg v13 wr => ∃ kk : Nat, kk ≤ l0.length ∧ l0.length - kk ≤ gg ∧ v13 = .int .i64 kk ∧ Aside0 (Below w.heap.size w wr) ∧ Aside0 (MapIs l0 w.heap.size kk wr))
  case atStart => exact ⟨0, Nat.zero_le _, by omega, rfl, BM, ⟨⟨_, World.ownsMap_made w Tryz.prog 59 (plainElem Tryz.prog 3), isMap_empty, fun a b _ _ => ⟨by simp [Maps.has, lastIx], fun h => by simp [lastIx] at h⟩⟩⟩⟩
  case round =>
    obtain ⟨kk, hkk, hg, rfl, BW, HM⟩ := hrel
    by_cases hlt : kk < l0.length
    · have hltz : (kk : Int) < (l0.length : Int) := by omega
      have hk0 : (0 : Int) ≤ (kk : Int) := by omega
      obtain ⟨ad, e, hx0, hx1, hx2, hx3, hx4, hx5, hx6, hx7⟩ := at_T96 (Kd.C_below HR.out BW.out) (kk : Int) hk0 hltz
      cases e
      simp only [Int.toNat_natCast] at hx0 hx1 hx2 hx3 hx4 hx5 hx6 hx7
      obtain ⟨D, hown, hI, hD⟩ := HM.out
      have HO := Aside0.mk hown
      have hcw := cellWf_of (HWF.out kk hlt)
      have HKEY := Aside0.mk (key_dot hcw.1.1 hcw.1.2)
      clear hown
      have HW := Aside0.mk (show (Lit.int .i64 (kk : Int)).wf = true by simp [Lit.wf, IntKind.min, IntKind.max, IntKind.signed, IntKind.bits]; omega)
      have HN : Aside0 (∀ W1 : World, W1.ownsMap Tryz.prog 59 (plainElem Tryz.prog 3) w.heap.size (kk + 1) (D.put (dotLit (rd_T96 l0 (kk : Int)).f1.f0 (rd_T96 l0 (kk : Int)).f1.f1) (.lit (.int .i64 (kk : Int)))) → MapIs l0 w.heap.size (kk + 1) W1) :=
        ⟨fun W1 hW1 => ⟨_, hW1, hI.put _ _, fun a b ha hb => mapIs_put hI HW.out hcw.1.1 hcw.1.2 hD a b ha hb⟩⟩
      clear hD hI hcw
      go_wp2_with (at_mapUpdate; refine wpList_mapUpdate_own _ rfl _ _ _ 126 rfl 59 3 rLaw Tryz.underlying126 _ w.heap.size kk D rfl (HO.out.alloc _) (by unfold maxLen; omega) _ _ _ rfl rfl HKEY.out (.lit (.int .i64 (kk : Int))) [] (plainElem_int Tryz.underlying3 HW.out) ?_; intro w1 hown1 hgrow1)
      have HB1 := Aside0.mk (pw_below_grown (BW.out.alloc BW.out.size _) (some w.heap.size) (by simp; have := BW.out.size; omega) hgrow1 (fun k e => by injection e with e; omega))
      have HM1 := Aside0.mk (HN.out _ hown1)
      clear hown1 hgrow1 HN
      go_roundg (l0.length - (kk + 1))
      case measure => omega
      case rel => exact ⟨kk + 1, by omega, by omega, by go_num, HB1, HM1⟩
    · have hltz : ¬ (kk : Int) < (l0.length : Int) := by omega
      have : kk = l0.length := by omega
      subst this
      clear BM hmm
      obtain ⟨D, hown, hI, hD⟩ := HM.out
      have HO := Aside0.mk hown
      have HD := Aside0.mk hD
      clear hown hI hD HM
      have hwr : w.heap.size ≤ wr.heap.size := BW.out.size
      go_wp2
      go_loopg [25] l0.length (fun gg v25 w2 => ∃ kk : Nat, kk ≤ l0.length ∧ l0.length - kk ≤ gg ∧ v25 = .int .i64 kk ∧ Aside0 (Below wr.heap.size wr w2) ∧ Aside0 (l0.all (refOkB l0) = (l0.drop kk).all (refOkB l0)))
      case atStart => exact ⟨0, Nat.zero_le _, by omega, rfl, ⟨Below.refl _ _⟩, ⟨by simp⟩⟩
      case round =>
        obtain ⟨kk, hkk, hg, rfl, BX, AX⟩ := hrel
        by_cases hlt : kk < l0.length
        · have hltz : (kk : Int) < (l0.length : Int) := by omega
          have hk0 : (0 : Int) ≤ (kk : Int) := by omega
          have HB := Aside0.mk (BW.out.trans (BX.out.mono hwr))
          obtain ⟨ad, e, hx0, hx1, hx2, hx3, hx4, hx5, hx6, hx7⟩ := at_T96 (Kd.C_below HR.out HB.out) (kk : Int) hk0 hltz
          cases e
          simp only [Int.toNat_natCast] at hx0 hx1 hx2 hx3 hx4 hx5 hx6 hx7
          have hcw := cellWf_of (HWF.out kk hlt)
          have HKEY := Aside0.mk (key_dot hcw.2.1 hcw.2.2)
          have hdd := HD.out _ _ hcw.2.1 hcw.2.2
          clear hcw
          have AY : Aside0 ((l0.drop kk).all (refOkB l0) = (refOkB l0 (rd_T96 l0 (kk : Int)) && (l0.drop (kk + 1)).all (refOkB l0))) := ⟨by
            rw [List.drop_eq_getElem_cons hlt, List.all_cons]
            simp [rd_T96, List.getElem?_eq_getElem hlt]⟩
          by_cases c1 : ((rd_T96 l0 (kk : Int)).f3.f0 == 0 && ((rd_T96 l0 (kk : Int)).f3.f1 == 0)) = true
          · have AZ : Aside0 (refOkB l0 (rd_T96 l0 (kk : Int)) = true) := ⟨by unfold refOkB; rw [if_pos c1]⟩
            clear hdd HO
            go_wp2
            go_roundg (l0.length - (kk + 1))
            case measure => omega
            case rel => exact ⟨kk + 1, by omega, by omega, by go_num, ⟨BX.out.alloc BX.out.size _⟩, ⟨by rw [AX.out, AY.out, AZ.out, Bool.true_and]⟩⟩
          · have HO2 := Aside0.mk (HO.out.kept (grown_of_below BX.out none) (by simp))
            replace c1 := Bool.eq_false_iff.mpr c1
            by_cases c2 : 0 ≤ lastIx (rd_T96 l0 (kk : Int)).f3.f0 (rd_T96 l0 (kk : Int)).f3.f1 l0 l0.length
            · have HH := Aside0.mk (hdd.1.trans (decide_eq_true c2))
              have HJ := Aside0.mk (hdd.2 c2 (.lit (.int .i64 0)))
              clear hdd
              have hlx := lastIx_lt (rd_T96 l0 (kk : Int)).f3.f0 (rd_T96 l0 (kk : Int)).f3.f1 l0 l0.length
              have AZ : Aside0 (refOkB l0 (rd_T96 l0 (kk : Int)) = ((rd_T96 l0 (lastIx (rd_T96 l0 (kk : Int)).f3.f0 (rd_T96 l0 (kk : Int)).f3.f1 l0 l0.length)).f0.toList == (rd_T96 l0 (kk : Int)).f0.toList && decide ((rd_T96 l0 (lastIx (rd_T96 l0 (kk : Int)).f3.f0 (rd_T96 l0 (kk : Int)).f3.f1 l0 l0.length)).f2 < (rd_T96 l0 (kk : Int)).f2))) := ⟨by unfold refOkB; rw [if_neg (by rw [c1]; decide), if_pos c2]⟩
              generalize lastIx (rd_T96 l0 (kk : Int)).f3.f0 (rd_T96 l0 (kk : Int)).f3.f1 l0 l0.length = j at c2 HJ hlx AZ
              obtain ⟨ad2, e2, hy0, hy1, hy2, hy3, hy4, hy5, hy6, hy7⟩ := at_T96 (Kd.C_below HR.out HB.out) j c2 hlx
              obtain rfl : ad = ad2 := by injection e2
              clear hy1 hy2 hy4 hy5 hy6 hy7
              have hz0 := fun o : Obj => (World.cell?_alloc_lt wr o _ (World.block_lt_of_cell? _ _ hy0)).trans hy0
              have hz2 := fun o : Obj => (World.cell?_alloc_lt wr o _ (World.block_lt_of_cell? _ _ hy3)).trans hy3
              have pj := eq_true c2
              have qj := eq_true hlx
              clear c2 hlx
              by_cases c3 : ((rd_T96 l0 j).f0.toList == (rd_T96 l0 (kk : Int)).f0.toList) = true
              · have c3n : (rd_T96 l0 j).f0.toList = (rd_T96 l0 (kk : Int)).f0.toList := beq_iff_eq.1 c3
                by_cases c4 : (rd_T96 l0 j).f2 < (rd_T96 l0 (kk : Int)).f2
                · replace AZ := Aside0.mk (AZ.out.trans (by rw [c3, decide_eq_true c4]; rfl) : refOkB l0 (rd_T96 l0 (kk : Int)) = true)
                  have c4b : decide ((rd_T96 l0 (kk : Int)).f2 ≤ (rd_T96 l0 j).f2) = false := decide_eq_false (by omega)
                  have c3m : ((rd_T96 l0 j).f0.toList != (rd_T96 l0 (kk : Int)).f0.toList) = false := bne_eq_false_iff_eq.mpr c3n
                  clear c3n c4 HO
                  go_wp2_with (at_lookup; refine wpList_lookup_hit _ rfl _ _ 126 rfl 59 3 .i64 rLaw Tryz.underlying126 Tryz.underlying3 (by kernel_rfl) w.heap.size l0.length D rfl (HO2.out.alloc _) _ _ rfl HKEY.out j HJ.out HH.out ?_)
                  repeat (go_quiet (fail); try go_wp2)
                  go_roundg (l0.length - (kk + 1))
                  case measure => omega
                  case rel => exact ⟨kk + 1, by omega, by omega, by go_num, ⟨by repeat (first | (with_reducible first | exact BX.out | apply below_alloc | apply pw_below_drewN | apply below_drew1) | exact BX.out)⟩, ⟨by rw [AX.out, AY.out, AZ.out, Bool.true_and]⟩⟩
                · replace AZ := Aside0.mk (AZ.out.trans (by rw [c3, decide_eq_false c4]; rfl) : refOkB l0 (rd_T96 l0 (kk : Int)) = false)
                  have c4b : decide ((rd_T96 l0 (kk : Int)).f2 ≤ (rd_T96 l0 j).f2) = true := decide_eq_true (by omega)
                  have c3m : ((rd_T96 l0 j).f0.toList != (rd_T96 l0 (kk : Int)).f0.toList) = false := bne_eq_false_iff_eq.mpr c3n
                  obtain rfl : r = false := by rw [← HRR.out, AX.out, AY.out, AZ.out, Bool.false_and]
                  clear c3n c4 HO
                  go_wp2_with (at_lookup; refine wpList_lookup_hit _ rfl _ _ 126 rfl 59 3 .i64 rLaw Tryz.underlying126 Tryz.underlying3 (by kernel_rfl) w.heap.size l0.length D rfl (HO2.out.alloc _) _ _ rfl HKEY.out j HJ.out HH.out ?_)
                  repeat (go_quiet (fail); try go_wp2)
                  go_ret
                  exact ⟨by first | rfl | (simp; done), by repeat (first | (with_reducible first | exact HB.out | apply below_alloc | apply pw_below_drewN | apply below_drew1) | exact HB.out)⟩
              · replace AZ := Aside0.mk (AZ.out.trans (by rw [Bool.eq_false_iff.mpr c3]; rfl) : refOkB l0 (rd_T96 l0 (kk : Int)) = false)
                replace c3 := Bool.eq_false_iff.mpr c3
                have c3m : ((rd_T96 l0 j).f0.toList != (rd_T96 l0 (kk : Int)).f0.toList) = true := bne_iff_ne.mpr (by simpa using c3)
                obtain rfl : r = false := by rw [← HRR.out, AX.out, AY.out, AZ.out, Bool.false_and]
                clear HO
                go_wp2_with (at_lookup; refine wpList_lookup_hit _ rfl _ _ 126 rfl 59 3 .i64 rLaw Tryz.underlying126 Tryz.underlying3 (by kernel_rfl) w.heap.size l0.length D rfl (HO2.out.alloc _) _ _ rfl HKEY.out j HJ.out HH.out ?_)
                repeat (go_quiet (fail); try go_wp2)
                go_ret
                exact ⟨by first | rfl | (simp; done), by repeat (first | (with_reducible first | exact HB.out | apply below_alloc | apply pw_below_drewN | apply below_drew1) | exact HB.out)⟩
            · have HH := Aside0.mk (hdd.1.trans (decide_eq_false c2))
              clear hdd
              have AZ : Aside0 (refOkB l0 (rd_T96 l0 (kk : Int)) = false) := ⟨by unfold refOkB; rw [if_neg (by rw [c1]; decide), if_neg c2]⟩
              clear c2 HO
              obtain rfl : r = false := by rw [← HRR.out, AX.out, AY.out, AZ.out, Bool.false_and]
              go_wp2_with (at_lookup; refine wpList_lookup_miss _ rfl _ _ 126 rfl 59 3 .i64 rLaw Tryz.underlying126 Tryz.underlying3 (by kernel_rfl) w.heap.size l0.length D rfl (HO2.out.alloc _) _ _ rfl HKEY.out HH.out ?_)
              repeat (go_quiet (fail); try go_wp2)
              go_ret
              exact ⟨by first | rfl | (simp; done), by repeat (first | (with_reducible first | exact HB.out | apply below_alloc | apply pw_below_drewN | apply below_drew1) | exact HB.out)⟩
        · have hltz : ¬ (kk : Int) < (l0.length : Int) := by omega
          have : kk = l0.length := by omega
          subst this
          go_wp2
          go_ret
          exact ⟨by rw [← HRR.out, AX.out, List.drop_eq_nil_of_le (Nat.le_refl _)]; rfl, BW.out.trans (BX.out.mono hwr)⟩
end Go.Proofs.YtbanogkoaplcdaaGreat.QDa
