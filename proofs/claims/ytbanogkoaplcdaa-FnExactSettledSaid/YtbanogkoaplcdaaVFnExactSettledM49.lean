/- Parts of the proof of FnExactSettled, one behind the other. No condition. -/
import Derived.Test.YtbanogkoaplcdaaVFnExactSettledM29
import Derived.Test.YtbanogkoaplcdaaVFnExactSettledM47
import Derived.Test.YtbanogkoaplcdaaVFnExactSettledM48
import Derived.Test.YtbanogkoaplcdaaVFnExactSettledM12
namespace Go.Proofs.Ytbanogkoaplcdaa.QSe
open Go.RowKit Go.Proofs.Ytbanogkoaplcdaa.Reg13 Go.Proofs.Ytbanogkoaplcdaa.Reg12 Go.Proofs.Ytbanogkoaplcdaa.Reg11 Go.Proofs.Ytbanogkoaplcdaa.Reg10 Go.Proofs.Ytbanogkoaplcdaa.Reg9 Go.Proofs.Ytbanogkoaplcdaa.Lock Go.Proofs.Ytbanogkoaplcdaa.Auto Go.Proofs.Ytbanogkoaplcdaa.Short Go.Proofs.YtbanogkoaplcdaaW.PrintWords Go.Proofs.YtbanogkoaplcdaaW.PrintLast Go.Proofs.YtbanogkoaplcdaaW.PrintMore
set_option linter.unusedVariables false
set_option linter.unusedSimpArgs false
def laws_FnExactSettled.g (k : Nat) (l0 : List (S46)) : Option (Bool) := (laws_toActS.f k l0).bind fun m => ((spec_Settled.f k m).bind fun s => ((impl_Settled.f k m).bind fun g => (if g.2.2.2.2 = s.2.2.2.2 then ((laws_eqState.f k g.1 g.2.1 g.2.2.1 g.2.2.2.1 s.1 s.2.1 s.2.2.1 s.2.2.2.1).bind fun t => (if t = true then ((laws_eqActS.f k m m).bind fun t => (if t = true then ((laws_markActS.f k m 1).bind fun y => (if y.1 < 0 then (some false) else ((laws_markState.f k g.1 g.2.1 g.2.2.1 g.2.2.2.1 1).bind fun z => ((laws_heldState.f k z.2.1 z.2.2.1 z.2.2.2.1 z.2.2.2.2 1).bind fun t => (if t < 0 then (some false) else (if t = z.1 then (some true) else (some false))))))) else (some false))) else (some false))) else (some false))))
def laws_FnExactSettled.f (k : Nat) (l0 : List (S46)) : Option (Bool) := (laws_szActS.f k l0 1048576).bind fun t => (if t < 0 then (some true) else (laws_FnExactSettled.g k l0))
theorem sxI {w Wc W : World} {v : Value} {m : List S51} (h : Kd.S k51 51 W Wc.heap.size (fun _ => True) v m) (hw : w.heap.size ≤ Wc.heap.size) : Kd.S k51 51 W w.heap.size (fun k => Wc.heap.size ≤ k ∧ k < W.heap.size) v m := Kd.S_mono (Kd.S_lower (Kd.S_bound h) hw) (fun _ hk => ⟨hk.2.1, hk.2.2.1⟩)
set_option maxHeartbeats 8000000 in
set_option maxRecDepth 100000 in
theorem laws_FnExactSettled.calls_true (k : Nat) (A0 : Option Addr) (c0 : Nat) (l0 : List (S46)) (w : World) (hr0 : Kd.C k46 w A0 l0.length l0) (hc0 : l0.length ≤ c0) (h : laws_FnExactSettled.f k l0 = some true) :
  Calls Try.prog 7 #[.slice A0 l0.length c0] w fun e w' => e = .returned (.bool true) ∧ Below w.heap.size w w' := by
 have hu36 := Try.underlying36
 have HR0 := Aside0.mk hr0
 have HC0 := Aside0.mk hc0
 have HB := Aside0.mk (Below.refl w.heap.size w)
 have H := h
 clear h hr0 hc0
 unfold laws_FnExactSettled.f at H
 replace H := bind_o H
 obtain ⟨t1, A1, H⟩ := H
 (try dsimp only at H)
 replace H := ite_lt H
 rcases H with ⟨c1, H⟩ | ⟨c1, H⟩
 ·
  clear H
  go_enter Try.func7, Try.ntmps7
  go_wp2_with (go_at_call 27; refine (laws_szActS.calls k _ _ l0 1048576 _ _ (Kd.C_below HR0.out HB.out) HC0.out A1.out).mono ?_; rintro e w' ⟨rfl, hb⟩; replace HB := Aside0.mk (below_step HB.out hb); clear hb)
  go_ret
  exact ⟨rfl, HB.out⟩
 unfold laws_FnExactSettled.g at H
 replace H := bind_o H
 obtain ⟨m, AM, H⟩ := H
 (try dsimp only at H)
 replace H := bind_o H
 obtain ⟨s, AS, H⟩ := H
 (try dsimp only at H)
 replace H := bind_o H
 obtain ⟨g, AG, H⟩ := H
 (try dsimp only at H)
 replace H := ite_ei H
 rcases H with ⟨cd, H⟩ | ⟨-, H⟩
 rotate_left
 · exact nofalse H
 replace H := bind_o H
 obtain ⟨t, AE1, H⟩ := H
 (try dsimp only at H)
 replace H := ite_b H
 rcases H with ⟨rfl, H⟩ | ⟨-, H⟩
 rotate_left
 · exact nofalse H
 replace H := bind_o H
 obtain ⟨t, AE2, H⟩ := H
 (try dsimp only at H)
 replace H := ite_b H
 rcases H with ⟨rfl, H⟩ | ⟨-, H⟩
 rotate_left
 · exact nofalse H
 replace H := bind_o H
 obtain ⟨y, AY, H⟩ := H
 (try dsimp only at H)
 replace H := ite_lt H
 rcases H with ⟨-, H⟩ | ⟨cy, H⟩
 · exact nofalse H
 replace H := bind_o H
 obtain ⟨z, AZ, H⟩ := H
 (try dsimp only at H)
 replace H := bind_o H
 obtain ⟨q, AQ, H⟩ := H
 (try dsimp only at H)
 replace H := ite_lt H
 rcases H with ⟨-, H⟩ | ⟨cq, H⟩
 · exact nofalse H
 replace H := ite_ei H
 rcases H with ⟨cz, H⟩ | ⟨-, H⟩
 rotate_left
 · exact nofalse H
 clear H
 have T1 := Aside0.mk trivial
 have TS := Aside0.mk trivial
 have T2 := Aside0.mk trivial
 have TI := Aside0.mk trivial
 have TE := Aside0.mk trivial
 have T3 := Aside0.mk trivial
 have TF := Aside0.mk trivial
 have TH := Aside0.mk trivial
 have T4 := Aside0.mk trivial
 have TJ := Aside0.mk trivial
 have TG := Aside0.mk trivial
 go_enter Try.func7, Try.ntmps7
 go_wp2_with (first
  | (go_at_call 27; refine (laws_szActS.calls k _ _ l0 1048576 _ _ (Kd.C_below HR0.out HB.out) HC0.out A1.out).mono ?_; rintro e w' ⟨rfl, hb⟩; replace HB := Aside0.mk (below_step HB.out hb); clear hb)
  | (go_at_call 29; clear T1; refine (laws_toActS.calls k _ _ l0 _ _ (Kd.C_below HR0.out HB.out) HC0.out AM.out).mono ?_; rintro e w' ⟨v, rfl, ho, hb⟩; obtain ⟨SA_a, SA_c, rfl⟩ := Kd.S_slice ho; have SA := Aside0.mk ho; clear ho; replace HB := Aside0.mk (below_step HB.out hb); clear hb)
  | (go_at_call 28; clear TS; refine (spec_Settled.calls k _ _ m s.1 s.2.1 s.2.2.1 s.2.2.2.1 s.2.2.2.2 _ (Kd.S_reads' SA.out).2.2 (Kd.S_reads' SA.out).2.1 AS.out).mono ?_; rintro e w' ⟨v0, v1, v2, v3, rfl, ho0, ho1, ho2, ho3, hb⟩; have RW_ := Aside0.mk (Rw.of (w := w) ho0 ho1 ho2 ho3 HB.out.size); clear ho0 ho1 ho2 ho3; clear SA; replace HB := Aside0.mk (below_step HB.out hb); clear hb; have RW := RW_; clear RW_; obtain ⟨W0, W1, W2, W3, Wc0, Wc1, Wc2, Wc3, rfl, rfl, rfl, rfl⟩ := RW.out.shape)
  | ((with_reducible refine gate_dst (N := 4) rfl ?_); refine al4_ (N := 4) RW.out.one ?_; intro g4 w1 hg hbox hb; have BK4_ := Aside0.mk hbox; clear hbox hg; replace RW := Aside0.mk (RW.out.below hb); replace HB := Aside0.mk (below_step HB.out hb); clear hb; have BK4 := BK4_; clear BK4_; have hcz4 := bc4 BK4.out)
  | (go_at_call 29; clear T2; refine (laws_toActS.calls k _ _ l0 _ _ (Kd.C_below HR0.out HB.out) HC0.out AM.out).mono ?_; rintro e w' ⟨v, rfl, ho, hb⟩; obtain ⟨SX_a, SX_c, rfl⟩ := Kd.S_slice ho; have LWX := Aside0.mk RW.out.le; have LX_ := Aside0.mk (Nat.le_refl w'.heap.size); have SX := Aside0.mk (sxI (w := w) ho HB.out.size); clear ho; replace BK4 := Aside0.mk (blk_below BK4.out hb); replace RW := Aside0.mk (RW.out.below hb); replace HB := Aside0.mk (below_step HB.out hb); clear hb; (try clear hcz4); have hcz4 := bc4 BK4.out; have LX := LX_; clear LX_)
  | (go_at_call 30; clear TI; have LWG := Aside0.mk RW.out.le; have LXG := Aside0.mk LX.out; refine (impl_Settled.calls k _ _ m g.1 g.2.1 g.2.2.1 g.2.2.2.1 g.2.2.2.2 _ (Kd.S_reads' SX.out).2.2 (Kd.S_reads' SX.out).2.1 AG.out).mono ?_; rintro e w' ⟨v0, v1, v2, v3, rfl, ho0, ho1, ho2, ho3, hb⟩; have RG_ := Aside0.mk (Rw.of (w := w) ho0 ho1 ho2 ho3 HB.out.size); clear ho0 ho1 ho2 ho3; replace BK4 := Aside0.mk (blk_below BK4.out hb); replace RW := Aside0.mk (RW.out.below hb); replace SX := Aside0.mk (Kd.S_below SX.out hb); replace LX := Aside0.mk (Nat.le_trans LX.out hb.size); replace HB := Aside0.mk (below_step HB.out hb); clear hb; (try clear hcz4); have hcz4 := bc4 BK4.out; have RG := RG_; clear RG_; obtain ⟨G0, G1, G2, G3, Gc0, Gc1, Gc2, Gc3, rfl, rfl, rfl, rfl⟩ := RG.out.shape)
  | ((with_reducible refine gate_dst (N := 7) rfl ?_); refine al4_ (N := 7) RG.out.one ?_; intro g7 w1 hg hbox hb; have BK7_ := Aside0.mk hbox; clear hbox hg; replace BK4 := Aside0.mk (blk_below BK4.out hb); replace RW := Aside0.mk (RW.out.below hb); replace RG := Aside0.mk (RG.out.below hb); replace SX := Aside0.mk (Kd.S_below SX.out hb); replace LX := Aside0.mk (Nat.le_trans LX.out hb.size); replace HB := Aside0.mk (below_step HB.out hb); clear hb; (try clear hcz4); have hcz4 := bc4 BK4.out; have BK7 := BK7_; clear BK7_; have hcz7 := bc4 BK7.out)
  | (go_at_call 14; clear TE; refine (laws_eqState.calls k _ _ g.1 _ _ g.2.1 _ _ g.2.2.1 _ _ g.2.2.2.1 _ _ s.1 _ _ s.2.1 _ _ s.2.2.1 _ _ s.2.2.2.1 _ _ (Kd.R_reads' RG.out.r0).2.2 (Kd.R_reads' RG.out.r0).2.1 (Kd.R_reads' RG.out.r1).2.2 (Kd.R_reads' RG.out.r1).2.1 (Kd.R_reads' RG.out.r2).2.2 (Kd.R_reads' RG.out.r2).2.1 (Kd.R_reads' RG.out.r3).2.2 (Kd.R_reads' RG.out.r3).2.1 (Kd.R_reads' RW.out.r0).2.2 (Kd.R_reads' RW.out.r0).2.1 (Kd.R_reads' RW.out.r1).2.2 (Kd.R_reads' RW.out.r1).2.1 (Kd.R_reads' RW.out.r2).2.2 (Kd.R_reads' RW.out.r2).2.1 (Kd.R_reads' RW.out.r3).2.2 (Kd.R_reads' RW.out.r3).2.1 AE1.out).mono ?_; rintro e w' ⟨rfl, hb⟩; replace BK4 := Aside0.mk (blk_below BK4.out hb); replace BK7 := Aside0.mk (blk_below BK7.out hb); replace RW := Aside0.mk (RW.out.below hb); replace RG := Aside0.mk (RG.out.below hb); replace SX := Aside0.mk (Kd.S_below SX.out hb); replace LX := Aside0.mk (Nat.le_trans LX.out hb.size); replace HB := Aside0.mk (below_step HB.out hb); clear hb; (try clear hcz4); have hcz4 := bc4 BK4.out; (try clear hcz7); have hcz7 := bc4 BK7.out)
  | (go_at_call 29; clear T3; refine (laws_toActS.calls k _ _ l0 _ _ (Kd.C_below HR0.out HB.out) HC0.out AM.out).mono ?_; rintro e w' ⟨v, rfl, ho, hb⟩; obtain ⟨SB_a, SB_c, rfl⟩ := Kd.S_slice ho; have SB := Aside0.mk ho; clear ho; replace BK4 := Aside0.mk (blk_below BK4.out hb); replace BK7 := Aside0.mk (blk_below BK7.out hb); replace RW := Aside0.mk (RW.out.below hb); replace RG := Aside0.mk (RG.out.below hb); replace SX := Aside0.mk (Kd.S_below SX.out hb); replace LX := Aside0.mk (Nat.le_trans LX.out hb.size); replace HB := Aside0.mk (below_step HB.out hb); clear hb; (try clear hcz4); have hcz4 := bc4 BK4.out; (try clear hcz7); have hcz7 := bc4 BK7.out)
  | (go_at_call 31; refine (laws_eqActS.calls k _ _ m _ _ m _ _ (Kd.S_reads' SX.out).2.2 (Kd.S_reads' SX.out).2.1 (Kd.S_reads' SB.out).2.2 (Kd.S_reads' SB.out).2.1 AE2.out).mono ?_; rintro e w' ⟨rfl, hb⟩; clear SB; replace BK4 := Aside0.mk (blk_below BK4.out hb); replace BK7 := Aside0.mk (blk_below BK7.out hb); replace RW := Aside0.mk (RW.out.below hb); replace RG := Aside0.mk (RG.out.below hb); replace SX := Aside0.mk (Kd.S_below SX.out hb); replace LX := Aside0.mk (Nat.le_trans LX.out hb.size); replace HB := Aside0.mk (below_step HB.out hb); clear hb; (try clear hcz4); have hcz4 := bc4 BK4.out; (try clear hcz7); have hcz7 := bc4 BK7.out)
  | (go_at_call 32; replace SX := Aside0.mk (Kd.S_bound SX.out); refine (laws_markActS.calls k _ _ m 1 y.1 y.2 w _ HB.out SX.out AY.out).mono ?_; rintro e w' ⟨rfl, -, hB, hK⟩; clear SX; replace BK4 := Aside0.mk (blk_kept BK4.out hK (fun hk => by obtain ⟨-, -, -, q, hq, cs_, hc_⟩ := hk; rw [BK4.out] at hc_; injection hc_ with hc_; injection hc_ with _ hc_; subst hc_; exact absurd hq (by decide))); replace BK7 := Aside0.mk (blk_kept BK7.out hK (fun hk => by obtain ⟨-, -, -, q, hq, cs_, hc_⟩ := hk; rw [BK7.out] at hc_; injection hc_ with hc_; injection hc_ with _ hc_; subst hc_; exact absurd hq (by decide))); replace RW := Aside0.mk (RW.out.kept hK (fun k hk => by have h1_ := hk.1; have h2_ := LWX.out; omega)); replace RG := Aside0.mk (RG.out.kept hK (fun k hk => by have h1_ := hk.1; have h2_ := LXG.out; omega)); replace HB := Aside0.mk hB; clear hB hK; (try clear hcz4); have hcz4 := bc4 BK4.out; (try clear hcz7); have hcz7 := bc4 BK7.out)
  | (go_at_call 14; clear TF; refine (laws_eqState.calls k _ _ g.1 _ _ g.2.1 _ _ g.2.2.1 _ _ g.2.2.2.1 _ _ s.1 _ _ s.2.1 _ _ s.2.2.1 _ _ s.2.2.2.1 _ _ (Kd.R_reads' RG.out.r0).2.2 (Kd.R_reads' RG.out.r0).2.1 (Kd.R_reads' RG.out.r1).2.2 (Kd.R_reads' RG.out.r1).2.1 (Kd.R_reads' RG.out.r2).2.2 (Kd.R_reads' RG.out.r2).2.1 (Kd.R_reads' RG.out.r3).2.2 (Kd.R_reads' RG.out.r3).2.1 (Kd.R_reads' RW.out.r0).2.2 (Kd.R_reads' RW.out.r0).2.1 (Kd.R_reads' RW.out.r1).2.2 (Kd.R_reads' RW.out.r1).2.1 (Kd.R_reads' RW.out.r2).2.2 (Kd.R_reads' RW.out.r2).2.1 (Kd.R_reads' RW.out.r3).2.2 (Kd.R_reads' RW.out.r3).2.1 AE1.out).mono ?_; rintro e w' ⟨rfl, hb⟩; replace BK4 := Aside0.mk (blk_below BK4.out hb); replace BK7 := Aside0.mk (blk_below BK7.out hb); replace RW := Aside0.mk (RW.out.below hb); replace RG := Aside0.mk (RG.out.below hb); replace HB := Aside0.mk (below_step HB.out hb); clear hb; (try clear hcz4); have hcz4 := bc4 BK4.out; (try clear hcz7); have hcz7 := bc4 BK7.out)
  | (go_at_call 24; refine (laws_markState.calls k _ _ g.1 _ _ g.2.1 _ _ g.2.2.1 _ _ g.2.2.2.1 1 _ _ _ _ _ w _ HB.out (Kd.R_tight rfl RG.out.r0) (Kd.R_tight rfl RG.out.r1) (Kd.R_tight rfl RG.out.r2) (Kd.R_tight rfl RG.out.r3) AZ.out).mono ?_; rintro e w' ⟨rfl, h0, h1, h2, h3, hB, hK⟩; replace BK4 := Aside0.mk (blk_kept BK4.out hK (RG.out.notS BK4.out (by decide))); replace BK7 := Aside0.mk (blk_kept BK7.out hK (RG.out.notS BK7.out (by decide))); replace RW := Aside0.mk (RW.out.kept hK (fun k hk => by have h1_ := RG.out.inS k hk; have h2_ := LWG.out; omega)); replace RG := Aside0.mk (RG.out.marked hK.1 h0 h1 h2 h3); replace HB := Aside0.mk hB; clear h0 h1 h2 h3 hB hK; (try clear hcz4); have hcz4 := bc4 BK4.out; (try clear hcz7); have hcz7 := bc4 BK7.out)
  | (go_at_call 26; clear TH; have e0 := (Kd.R_reads' RG.out.r0).1; have e1 := (Kd.R_reads' RG.out.r1).1; have e2 := (Kd.R_reads' RG.out.r2).1; have e3 := (Kd.R_reads' RG.out.r3).1; have hh := laws_heldState.calls k _ _ z.2.1 _ _ z.2.2.1 _ _ z.2.2.2.1 _ _ z.2.2.2.2 1 q _ (Kd.R_reads' RG.out.r0).2.2 (Nat.le_trans (Nat.le_of_eq e0.symm) (Kd.R_reads' RG.out.r0).2.1) (Kd.R_reads' RG.out.r1).2.2 (Nat.le_trans (Nat.le_of_eq e1.symm) (Kd.R_reads' RG.out.r1).2.1) (Kd.R_reads' RG.out.r2).2.2 (Nat.le_trans (Nat.le_of_eq e2.symm) (Kd.R_reads' RG.out.r2).2.1) (Kd.R_reads' RG.out.r3).2.2 (Nat.le_trans (Nat.le_of_eq e3.symm) (Kd.R_reads' RG.out.r3).2.1) AQ.out; rw [← e0, ← e1, ← e2, ← e3] at hh; refine hh.mono ?_; clear hh e0 e1 e2 e3; rintro e w' ⟨rfl, hb⟩; replace BK4 := Aside0.mk (blk_below BK4.out hb); replace BK7 := Aside0.mk (blk_below BK7.out hb); replace RW := Aside0.mk (RW.out.below hb); replace RG := Aside0.mk (RG.out.below hb); replace HB := Aside0.mk (below_step HB.out hb); clear hb; (try clear hcz4); have hcz4 := bc4 BK4.out; (try clear hcz7); have hcz7 := bc4 BK7.out)
  | (go_at_call 29; clear T4; refine (laws_toActS.calls k _ _ l0 _ _ (Kd.C_below HR0.out HB.out) HC0.out AM.out).mono ?_; rintro e w' ⟨v, rfl, ho, hb⟩; obtain ⟨SC_a, SC_c, rfl⟩ := Kd.S_slice ho; have SC := Aside0.mk ho; clear ho; replace BK4 := Aside0.mk (blk_below BK4.out hb); replace BK7 := Aside0.mk (blk_below BK7.out hb); replace RW := Aside0.mk (RW.out.below hb); replace RG := Aside0.mk (RG.out.below hb); replace HB := Aside0.mk (below_step HB.out hb); clear hb; (try clear hcz4); have hcz4 := bc4 BK4.out; (try clear hcz7); have hcz7 := bc4 BK7.out)
  | (go_at_call 30; clear TJ; refine (impl_Settled.calls k _ _ m g.1 g.2.1 g.2.2.1 g.2.2.2.1 g.2.2.2.2 _ (Kd.S_reads' SC.out).2.2 (Kd.S_reads' SC.out).2.1 AG.out).mono ?_; rintro e w' ⟨v0, v1, v2, v3, rfl, ho0, ho1, ho2, ho3, hb⟩; have RH_ := Aside0.mk (Rw.of (w := w) ho0 ho1 ho2 ho3 HB.out.size); clear ho0 ho1 ho2 ho3; clear SC; replace BK4 := Aside0.mk (blk_below BK4.out hb); replace BK7 := Aside0.mk (blk_below BK7.out hb); replace RW := Aside0.mk (RW.out.below hb); replace RG := Aside0.mk (RG.out.below hb); replace HB := Aside0.mk (below_step HB.out hb); clear hb; (try clear hcz4); have hcz4 := bc4 BK4.out; (try clear hcz7); have hcz7 := bc4 BK7.out; have RH := RH_; clear RH_; obtain ⟨H0, H1, H2, H3, Hc0, Hc1, Hc2, Hc3, rfl, rfl, rfl, rfl⟩ := RH.out.shape)
  | ((with_reducible refine gate_dst (N := 12) rfl ?_); refine al4_ (N := 12) RH.out.one ?_; intro g12 w1 hg hbox hb; have BK12_ := Aside0.mk hbox; clear hbox hg; replace BK4 := Aside0.mk (blk_below BK4.out hb); replace BK7 := Aside0.mk (blk_below BK7.out hb); replace RW := Aside0.mk (RW.out.below hb); replace RG := Aside0.mk (RG.out.below hb); replace RH := Aside0.mk (RH.out.below hb); replace HB := Aside0.mk (below_step HB.out hb); clear hb; (try clear hcz4); have hcz4 := bc4 BK4.out; (try clear hcz7); have hcz7 := bc4 BK7.out; have BK12 := BK12_; clear BK12_; have hcz12 := bc4 BK12.out)
  | (go_at_call 14; clear TG; refine (laws_eqState.calls k _ _ g.1 _ _ g.2.1 _ _ g.2.2.1 _ _ g.2.2.2.1 _ _ s.1 _ _ s.2.1 _ _ s.2.2.1 _ _ s.2.2.2.1 _ _ (Kd.R_reads' RH.out.r0).2.2 (Kd.R_reads' RH.out.r0).2.1 (Kd.R_reads' RH.out.r1).2.2 (Kd.R_reads' RH.out.r1).2.1 (Kd.R_reads' RH.out.r2).2.2 (Kd.R_reads' RH.out.r2).2.1 (Kd.R_reads' RH.out.r3).2.2 (Kd.R_reads' RH.out.r3).2.1 (Kd.R_reads' RW.out.r0).2.2 (Kd.R_reads' RW.out.r0).2.1 (Kd.R_reads' RW.out.r1).2.2 (Kd.R_reads' RW.out.r1).2.1 (Kd.R_reads' RW.out.r2).2.2 (Kd.R_reads' RW.out.r2).2.1 (Kd.R_reads' RW.out.r3).2.2 (Kd.R_reads' RW.out.r3).2.1 AE1.out).mono ?_; rintro e w' ⟨rfl, hb⟩; replace BK4 := Aside0.mk (blk_below BK4.out hb); replace BK7 := Aside0.mk (blk_below BK7.out hb); replace BK12 := Aside0.mk (blk_below BK12.out hb); replace RW := Aside0.mk (RW.out.below hb); replace RG := Aside0.mk (RG.out.below hb); replace RH := Aside0.mk (RH.out.below hb); replace HB := Aside0.mk (below_step HB.out hb); clear hb; (try clear hcz4); have hcz4 := bc4 BK4.out; (try clear hcz7); have hcz7 := bc4 BK7.out; (try clear hcz12); have hcz12 := bc4 BK12.out)
  | (go_at_call 26; have e0 := (Kd.R_reads' RG.out.r0).1; have e1 := (Kd.R_reads' RG.out.r1).1; have e2 := (Kd.R_reads' RG.out.r2).1; have e3 := (Kd.R_reads' RG.out.r3).1; have hh := laws_heldState.calls k _ _ z.2.1 _ _ z.2.2.1 _ _ z.2.2.2.1 _ _ z.2.2.2.2 1 q _ (Kd.R_reads' RG.out.r0).2.2 (Nat.le_trans (Nat.le_of_eq e0.symm) (Kd.R_reads' RG.out.r0).2.1) (Kd.R_reads' RG.out.r1).2.2 (Nat.le_trans (Nat.le_of_eq e1.symm) (Kd.R_reads' RG.out.r1).2.1) (Kd.R_reads' RG.out.r2).2.2 (Nat.le_trans (Nat.le_of_eq e2.symm) (Kd.R_reads' RG.out.r2).2.1) (Kd.R_reads' RG.out.r3).2.2 (Nat.le_trans (Nat.le_of_eq e3.symm) (Kd.R_reads' RG.out.r3).2.1) AQ.out; rw [← e0, ← e1, ← e2, ← e3] at hh; refine hh.mono ?_; clear hh e0 e1 e2 e3; rintro e w' ⟨rfl, hb⟩; replace HB := Aside0.mk (below_step HB.out hb); clear hb)
  )
 go_ret
 exact ⟨rfl, HB.out⟩
end Go.Proofs.Ytbanogkoaplcdaa.QSe
