/- Parts of the proof of FnExactDoAll, one behind the other. No condition. -/
import Derived.Test.YtbanogkoaplcdaaGreatVFnExactDoAllM32
import Derived.Test.YtbanogkoaplcdaaGreatVFnExactDoAllM48
import Derived.Test.YtbanogkoaplcdaaGreatVFnExactDoAllM49
import Derived.Test.YtbanogkoaplcdaaGreatVFnExactDoAllM50
import Derived.Test.YtbanogkoaplcdaaGreatVFnExactDoAllM3
import Derived.Test.YtbanogkoaplcdaaGreatVFnExactDoAllM15
namespace Go.Proofs.YtbanogkoaplcdaaGreat.QDa
open Go.RowKit Go.Proofs.YtbanogkoaplcdaaGreat.Reg14 Go.Proofs.YtbanogkoaplcdaaGreat.Reg13 Go.Proofs.YtbanogkoaplcdaaGreat.Reg12 Go.Proofs.YtbanogkoaplcdaaGreat.Reg11 Go.Proofs.YtbanogkoaplcdaaGreat.Reg10 Go.Proofs.YtbanogkoaplcdaaGreat.Reg9 Go.Proofs.YtbanogkoaplcdaaGreat.Lock Go.Proofs.YtbanogkoaplcdaaGreat.Auto Go.Proofs.YtbanogkoaplcdaaGreat.Short Go.Proofs.YtbanogkoaplcdaaGreatW.PrintWords Go.Proofs.YtbanogkoaplcdaaGreatW.PrintLast Go.Proofs.YtbanogkoaplcdaaGreatW.PrintMore
set_option linter.unusedVariables false
set_option linter.unusedSimpArgs false
def laws_FnExactDoAll.g (k : Nat) (l0_0 : List (Int)) (l0_1 : List (S77)) (l0_2 : List (S80)) (l0_3 : List (S83)) (l1 : List (S55)) : Option (Bool) := (laws_toState.f k l0_0 l0_1 l0_2 l0_3).bind fun m => ((laws_toActS.f k l1).bind fun n => ((spec_DoAll.f k m.1 m.2.1 m.2.2.1 m.2.2.2 n).bind fun s => ((impl_DoAll.f k m.1 m.2.1 m.2.2.1 m.2.2.2 n).bind fun g => ((laws_eqState.f k g.1 g.2.1 g.2.2.1 g.2.2.2.1 s.1 s.2.1 s.2.2.1 s.2.2.2.1).bind fun t => (if t = true then ((laws_eqIntS.f k g.2.2.2.2 s.2.2.2.2).bind fun t => (if t = true then ((laws_eqState.f k m.1 m.2.1 m.2.2.1 m.2.2.2 m.1 m.2.1 m.2.2.1 m.2.2.2).bind fun t => (if t = true then ((laws_eqActS.f k n n).bind fun t => (if t = true then ((laws_markState.f k m.1 m.2.1 m.2.2.1 m.2.2.2 1).bind fun x => ((laws_markActS.f k n x.1).bind fun y => (if y.1 < 0 then (some false) else ((laws_markState.f k g.1 g.2.1 g.2.2.1 g.2.2.2.1 1).bind fun z => ((laws_markIntS.f k g.2.2.2.2 z.1).bind fun u => ((laws_heldState.f k z.2.1 z.2.2.1 z.2.2.2.1 z.2.2.2.2 1).bind fun q => (if q < 0 then (some false) else ((laws_heldIntS.f k u.2 q).bind fun v => (if v < 0 then (some false) else (if v = u.1 then (some true) else (some false))))))))))) else (some false))) else (some false))) else (some false))) else (some false))))))
def laws_FnExactDoAll.f (k : Nat) (l0_0 : List (Int)) (l0_1 : List (S77)) (l0_2 : List (S80)) (l0_3 : List (S83)) (l1 : List (S55)) : Option (Bool) := (laws_szState.f k l0_0 l0_1 l0_2 l0_3 1048576).bind fun t => (if t < 0 then (some true) else ((laws_szActS.f k l1 t).bind fun t => (if t < 0 then (some true) else (laws_FnExactDoAll.g k l0_0 l0_1 l0_2 l0_3 l1))))
def laws_FnExactDoAll.T14 : Bool × List (List Nat × List Nat) := (true, [([], []), ([], []), ([1], [1]), ([0, 2, 2], [0, 2]), ([3], [3])])
theorem laws_FnExactDoAll.tab14 : rtab .any (opsOf Tryz.f3 14) = laws_FnExactDoAll.T14 := by kernel_rfl
theorem sxI {w Wc W : World} {v : Value} {m : List S61} (h : Kd.S k61 61 W Wc.heap.size (fun _ => True) v m) (hw : w.heap.size ≤ Wc.heap.size) : Kd.S k61 61 W w.heap.size (fun k => Wc.heap.size ≤ k ∧ k < W.heap.size) v m := Kd.S_mono (Kd.S_lower (Kd.S_bound h) hw) (fun _ hk => ⟨hk.2.1, hk.2.2.1⟩)
set_option maxHeartbeats 8000000 in
set_option maxRecDepth 100000 in
theorem laws_FnExactDoAll.calls_true (k : Nat) (A0_0 : Option Addr) (c0_0 : Nat) (l0_0 : List (Int)) (A0_1 : Option Addr) (c0_1 : Nat) (l0_1 : List (S77)) (A0_2 : Option Addr) (c0_2 : Nat) (l0_2 : List (S80)) (A0_3 : Option Addr) (c0_3 : Nat) (l0_3 : List (S83)) (A1 : Option Addr) (c1 : Nat) (l1 : List (S55)) (w : World) (hr0_0 : Kd.C (Kd.int .i64) w A0_0 l0_0.length l0_0) (hc0_0 : l0_0.length ≤ c0_0) (hr0_1 : Kd.C k77 w A0_1 l0_1.length l0_1) (hc0_1 : l0_1.length ≤ c0_1) (hr0_2 : Kd.C k80 w A0_2 l0_2.length l0_2) (hc0_2 : l0_2.length ≤ c0_2) (hr0_3 : Kd.C k83 w A0_3 l0_3.length l0_3) (hc0_3 : l0_3.length ≤ c0_3) (hr1 : Kd.C k55 w A1 l1.length l1) (hc1 : l1.length ≤ c1) (h : laws_FnExactDoAll.f k l0_0 l0_1 l0_2 l0_3 l1 = some true) :
  Calls Tryz.prog 3 #[.agg #[.slice A0_0 l0_0.length c0_0, .slice A0_1 l0_1.length c0_1, .slice A0_2 l0_2.length c0_2, .slice A0_3 l0_3.length c0_3], .slice A1 l1.length c1] w fun e w' => e = .returned (.bool true) ∧ Below w.heap.size w w' := by
 have hu35 := Tryz.underlying35
 have hu27 := Tryz.underlying27
 have HR0_0 := Aside0.mk hr0_0
 have HC0_0 := Aside0.mk hc0_0
 have HR0_1 := Aside0.mk hr0_1
 have HC0_1 := Aside0.mk hc0_1
 have HR0_2 := Aside0.mk hr0_2
 have HC0_2 := Aside0.mk hc0_2
 have HR0_3 := Aside0.mk hr0_3
 have HC0_3 := Aside0.mk hc0_3
 have HR1 := Aside0.mk hr1
 have HC1 := Aside0.mk hc1
 have HB := Aside0.mk (Below.refl w.heap.size w)
 have H := h
 clear h hr0_0 hc0_0 hr0_1 hc0_1 hr0_2 hc0_2 hr0_3 hc0_3 hr1 hc1
 unfold laws_FnExactDoAll.f at H
 replace H := bind_o H
 obtain ⟨t1, A1, H⟩ := H
 (try dsimp only at H)
 replace H := ite_lt H
 rcases H with ⟨c1, H⟩ | ⟨c1, H⟩
 ·
  clear H
  go_enter Tryz.func3, Tryz.ntmps3
  go_wp2_with (first
  | ((with_reducible refine gate_dst (N := 2) rfl ?_); refine bx_ (N := 2) ?_; intro g2 hg w1 hbox hb; replace HB := Aside0.mk (below_step HB.out hb); clear hb; have BK2 := Aside0.mk hbox; clear hbox hg; have hcz2 := bc4 BK2.out)
  | (go_at_call 4; refine (laws_szState.calls k _ _ l0_0 _ _ l0_1 _ _ l0_2 _ _ l0_3 1048576 _ _ (Kd.C_below HR0_0.out HB.out) HC0_0.out (Kd.C_below HR0_1.out HB.out) HC0_1.out (Kd.C_below HR0_2.out HB.out) HC0_2.out (Kd.C_below HR0_3.out HB.out) HC0_3.out A1.out).mono ?_; rintro e w' ⟨rfl, hb⟩; replace BK2 := Aside0.mk (blk_below BK2.out hb); replace HB := Aside0.mk (below_step HB.out hb); clear hb; (try clear hcz2); have hcz2 := bc4 BK2.out)
  | (go_at_call 5; refine (laws_szActS.calls k _ _ l1 t1 _ _ (Kd.C_below HR1.out HB.out) HC1.out A2.out).mono ?_; rintro e w' ⟨rfl, hb⟩; replace BK2 := Aside0.mk (blk_below BK2.out hb); replace HB := Aside0.mk (below_step HB.out hb); clear hb; (try clear hcz2); have hcz2 := bc4 BK2.out)
  )
  go_ret
  exact ⟨rfl, HB.out⟩
 replace H := bind_o H
 obtain ⟨t2, A2, H⟩ := H
 (try dsimp only at H)
 replace H := ite_lt H
 rcases H with ⟨c2, H⟩ | ⟨c2, H⟩
 ·
  clear H
  go_enter Tryz.func3, Tryz.ntmps3
  go_wp2_with (first
  | ((with_reducible refine gate_dst (N := 2) rfl ?_); refine bx_ (N := 2) ?_; intro g2 hg w1 hbox hb; replace HB := Aside0.mk (below_step HB.out hb); clear hb; have BK2 := Aside0.mk hbox; clear hbox hg; have hcz2 := bc4 BK2.out)
  | (go_at_call 4; refine (laws_szState.calls k _ _ l0_0 _ _ l0_1 _ _ l0_2 _ _ l0_3 1048576 _ _ (Kd.C_below HR0_0.out HB.out) HC0_0.out (Kd.C_below HR0_1.out HB.out) HC0_1.out (Kd.C_below HR0_2.out HB.out) HC0_2.out (Kd.C_below HR0_3.out HB.out) HC0_3.out A1.out).mono ?_; rintro e w' ⟨rfl, hb⟩; replace BK2 := Aside0.mk (blk_below BK2.out hb); replace HB := Aside0.mk (below_step HB.out hb); clear hb; (try clear hcz2); have hcz2 := bc4 BK2.out)
  | (go_at_call 5; refine (laws_szActS.calls k _ _ l1 t1 _ _ (Kd.C_below HR1.out HB.out) HC1.out A2.out).mono ?_; rintro e w' ⟨rfl, hb⟩; replace BK2 := Aside0.mk (blk_below BK2.out hb); replace HB := Aside0.mk (below_step HB.out hb); clear hb; (try clear hcz2); have hcz2 := bc4 BK2.out)
  )
  go_ret
  exact ⟨rfl, HB.out⟩
 unfold laws_FnExactDoAll.g at H
 replace H := bind_o H
 obtain ⟨m, AM, H⟩ := H
 (try dsimp only at H)
 replace H := bind_o H
 obtain ⟨n, AN, H⟩ := H
 (try dsimp only at H)
 replace H := bind_o H
 obtain ⟨s, AS, H⟩ := H
 (try dsimp only at H)
 replace H := bind_o H
 obtain ⟨g, AG, H⟩ := H
 (try dsimp only at H)
 replace H := bind_o H
 obtain ⟨t, AE1, H⟩ := H
 (try dsimp only at H)
 replace H := ite_b H
 rcases H with ⟨rfl, H⟩ | ⟨-, H⟩
 rotate_left
 · exact nofalse H
 replace H := bind_o H
 obtain ⟨t, AE4, H⟩ := H
 (try dsimp only at H)
 replace H := ite_b H
 rcases H with ⟨rfl, H⟩ | ⟨-, H⟩
 rotate_left
 · exact nofalse H
 replace H := bind_o H
 obtain ⟨t, AE2, H⟩ := H
 (try dsimp only at H)
 replace H := ite_b H
 rcases H with ⟨rfl, H⟩ | ⟨-, H⟩
 rotate_left
 · exact nofalse H
 replace H := bind_o H
 obtain ⟨t, AE3, H⟩ := H
 (try dsimp only at H)
 replace H := ite_b H
 rcases H with ⟨rfl, H⟩ | ⟨-, H⟩
 rotate_left
 · exact nofalse H
 replace H := bind_o H
 obtain ⟨x, AX, H⟩ := H
 (try dsimp only at H)
 replace H := bind_o H
 obtain ⟨y, AY, H⟩ := H
 (try dsimp only at H)
 replace H := ite_lt H
 rcases H with ⟨-, H⟩ | ⟨cy, H⟩
 · exact nofalse H
 replace H := bind_o H
 obtain ⟨z, AZ, H⟩ := H
 (try dsimp only at H)
 replace H := bind_o H
 obtain ⟨u, AU, H⟩ := H
 (try dsimp only at H)
 replace H := bind_o H
 obtain ⟨q, AQ, H⟩ := H
 (try dsimp only at H)
 replace H := ite_lt H
 rcases H with ⟨-, H⟩ | ⟨cq, H⟩
 · exact nofalse H
 replace H := bind_o H
 obtain ⟨v, AV, H⟩ := H
 (try dsimp only at H)
 replace H := ite_lt H
 rcases H with ⟨-, H⟩ | ⟨cv, H⟩
 · exact nofalse H
 replace H := ite_ei H
 rcases H with ⟨cz, H⟩ | ⟨-, H⟩
 rotate_left
 · exact nofalse H
 clear H
 have T0 := Aside0.mk trivial
 have T1 := Aside0.mk trivial
 have T2 := Aside0.mk trivial
 have T3 := Aside0.mk trivial
 have T4 := Aside0.mk trivial
 have T5 := Aside0.mk trivial
 have T6 := Aside0.mk trivial
 have T7 := Aside0.mk trivial
 have T8 := Aside0.mk trivial
 have T9 := Aside0.mk trivial
 have TA := Aside0.mk trivial
 have TB := Aside0.mk trivial
 have TC := Aside0.mk trivial
 have TD_ := Aside0.mk trivial
 have TE := Aside0.mk trivial
 have TF := Aside0.mk trivial
 have TG := Aside0.mk trivial
 have TH := Aside0.mk trivial
 have TI := Aside0.mk trivial
 have TJ := Aside0.mk trivial
 have TK := Aside0.mk trivial
 have TL := Aside0.mk trivial
 go_enter Tryz.func3, Tryz.ntmps3
 go_wp2_with (first
  | ((with_reducible refine gate_dst (N := 2) rfl ?_); refine bx_ (N := 2) ?_; intro g2 hg w1 hbox hb; replace HB := Aside0.mk (below_step HB.out hb); clear hb; have BK2 := Aside0.mk hbox; clear hbox hg; have hcz2 := bc4 BK2.out)
  | (go_at_call 4; refine (laws_szState.calls k _ _ l0_0 _ _ l0_1 _ _ l0_2 _ _ l0_3 1048576 _ _ (Kd.C_below HR0_0.out HB.out) HC0_0.out (Kd.C_below HR0_1.out HB.out) HC0_1.out (Kd.C_below HR0_2.out HB.out) HC0_2.out (Kd.C_below HR0_3.out HB.out) HC0_3.out A1.out).mono ?_; rintro e w' ⟨rfl, hb⟩; replace BK2 := Aside0.mk (blk_below BK2.out hb); replace HB := Aside0.mk (below_step HB.out hb); clear hb; (try clear hcz2); have hcz2 := bc4 BK2.out)
  | (go_at_call 5; refine (laws_szActS.calls k _ _ l1 t1 _ _ (Kd.C_below HR1.out HB.out) HC1.out A2.out).mono ?_; rintro e w' ⟨rfl, hb⟩; replace BK2 := Aside0.mk (blk_below BK2.out hb); replace HB := Aside0.mk (below_step HB.out hb); clear hb; (try clear hcz2); have hcz2 := bc4 BK2.out)
  | (go_at_call 7; clear T0; refine (laws_toState.calls k _ _ l0_0 _ _ l0_1 _ _ l0_2 _ _ l0_3 _ _ _ _ _ (Kd.C_below HR0_0.out HB.out) HC0_0.out (Kd.C_below HR0_1.out HB.out) HC0_1.out (Kd.C_below HR0_2.out HB.out) HC0_2.out (Kd.C_below HR0_3.out HB.out) HC0_3.out AM.out).mono ?_; rintro e w' ⟨v0, v1, v2, v3, rfl, ho0, ho1, ho2, ho3, hb⟩; have RA_ := Aside0.mk (Rw.of (w := w) ho0 ho1 ho2 ho3 HB.out.size); clear ho0 ho1 ho2 ho3; replace BK2 := Aside0.mk (blk_below BK2.out hb); replace HB := Aside0.mk (below_step HB.out hb); clear hb; (try clear hcz2); have hcz2 := bc4 BK2.out; have RA := RA_; clear RA_; obtain ⟨A0, A1, A2, A3, Ac0, Ac1, Ac2, Ac3, rfl, rfl, rfl, rfl⟩ := RA.out.shape)
  | (go_at_call 8; clear T1; refine (laws_toActS.calls k _ _ l1 _ _ (Kd.C_below HR1.out HB.out) HC1.out AN.out).mono ?_; rintro e w' ⟨v, rfl, ho, hb⟩; obtain ⟨SA_a, SA_c, rfl⟩ := Kd.S_slice ho; have SA_ := Aside0.mk (sxI (w := w) ho HB.out.size); have LX_ := Aside0.mk (Nat.le_refl w'.heap.size); clear ho; replace BK2 := Aside0.mk (blk_below BK2.out hb); replace RA := Aside0.mk (RA.out.below hb); replace HB := Aside0.mk (below_step HB.out hb); clear hb; (try clear hcz2); have hcz2 := bc4 BK2.out; have SA := SA_; clear SA_; clear LX_)
  | (go_at_call 6; clear T2; refine (spec_DoAll.calls k _ _ m.1 _ _ m.2.1 _ _ m.2.2.1 _ _ m.2.2.2 _ _ n s.1 s.2.1 s.2.2.1 s.2.2.2.1 s.2.2.2.2 _ (Kd.R_reads' RA.out.r0).2.2 (Kd.R_reads' RA.out.r0).2.1 (Kd.R_reads' RA.out.r1).2.2 (Kd.R_reads' RA.out.r1).2.1 (Kd.R_reads' RA.out.r2).2.2 (Kd.R_reads' RA.out.r2).2.1 (Kd.R_reads' RA.out.r3).2.2 (Kd.R_reads' RA.out.r3).2.1 (Kd.S_reads' SA.out).2.2 (Kd.S_reads' SA.out).2.1 AS.out).mono ?_; rintro e w' ⟨v0, v1, v2, v3, v4, rfl, ho0, ho1, ho2, ho3, ho4, hb⟩; have RW_ := Aside0.mk (Rc.of (w := w) ho0 ho1 ho2 ho3 ho4 HB.out.size); obtain ⟨W4, Wc4, rfl⟩ := Kd.R_slice ho4; clear ho0 ho1 ho2 ho3 ho4 RA SA; replace BK2 := Aside0.mk (blk_below BK2.out hb); replace HB := Aside0.mk (below_step HB.out hb); clear hb; (try clear hcz2); have hcz2 := bc4 BK2.out; have RW := RW_; clear RW_; obtain ⟨W0, W1, W2, W3, Wc0, Wc1, Wc2, Wc3, rfl, rfl, rfl, rfl⟩ := RW.out.rw.shape)
  | ((with_reducible refine gate_dst (N := 6) rfl ?_); refine al4_ (N := 6) RW.out.rw.one ?_; intro g6 w1 hg hbox hb; have BK6_ := Aside0.mk hbox; clear hbox hg; replace BK2 := Aside0.mk (blk_below BK2.out hb); replace RW := Aside0.mk (RW.out.below hb); replace HB := Aside0.mk (below_step HB.out hb); clear hb; (try clear hcz2); have hcz2 := bc4 BK2.out; have BK6 := BK6_; clear BK6_; have hcz6 := bc4 BK6.out)
  | (go_at_call 7; clear T3; have LWX := Aside0.mk RW.out.rw.le; refine (laws_toState.calls k _ _ l0_0 _ _ l0_1 _ _ l0_2 _ _ l0_3 _ _ _ _ _ (Kd.C_below HR0_0.out HB.out) HC0_0.out (Kd.C_below HR0_1.out HB.out) HC0_1.out (Kd.C_below HR0_2.out HB.out) HC0_2.out (Kd.C_below HR0_3.out HB.out) HC0_3.out AM.out).mono ?_; rintro e w' ⟨v0, v1, v2, v3, rfl, ho0, ho1, ho2, ho3, hb⟩; have RX_ := Aside0.mk (Rw.of (w := w) ho0 ho1 ho2 ho3 HB.out.size); clear ho0 ho1 ho2 ho3; replace BK2 := Aside0.mk (blk_below BK2.out hb); replace BK6 := Aside0.mk (blk_below BK6.out hb); replace RW := Aside0.mk (RW.out.below hb); replace HB := Aside0.mk (below_step HB.out hb); clear hb; (try clear hcz2); have hcz2 := bc4 BK2.out; (try clear hcz6); have hcz6 := bc4 BK6.out; have RX := RX_; clear RX_; obtain ⟨X0, X1, X2, X3, Xc0, Xc1, Xc2, Xc3, rfl, rfl, rfl, rfl⟩ := RX.out.shape)
  | ((with_reducible refine gate_dst (N := 8) rfl ?_); refine al4_ (N := 8) RX.out.one ?_; intro g8 w1 hg hbox hb; have BK8_ := Aside0.mk hbox; clear hbox hg; replace BK2 := Aside0.mk (blk_below BK2.out hb); replace BK6 := Aside0.mk (blk_below BK6.out hb); replace RW := Aside0.mk (RW.out.below hb); replace RX := Aside0.mk (RX.out.below hb); replace HB := Aside0.mk (below_step HB.out hb); clear hb; (try clear hcz2); have hcz2 := bc4 BK2.out; (try clear hcz6); have hcz6 := bc4 BK6.out; have BK8 := BK8_; clear BK8_; have hcz8 := bc4 BK8.out)
  | (go_at_call 8; clear T4; have LWS := Aside0.mk RW.out.rw.le; have LXS := Aside0.mk RX.out.le; refine (laws_toActS.calls k _ _ l1 _ _ (Kd.C_below HR1.out HB.out) HC1.out AN.out).mono ?_; rintro e w' ⟨v, rfl, ho, hb⟩; obtain ⟨SX_a, SX_c, rfl⟩ := Kd.S_slice ho; have SX_ := Aside0.mk (sxI (w := w) ho HB.out.size); have LX_ := Aside0.mk (Nat.le_refl w'.heap.size); clear ho; replace BK2 := Aside0.mk (blk_below BK2.out hb); replace BK6 := Aside0.mk (blk_below BK6.out hb); replace BK8 := Aside0.mk (blk_below BK8.out hb); replace RW := Aside0.mk (RW.out.below hb); replace RX := Aside0.mk (RX.out.below hb); replace HB := Aside0.mk (below_step HB.out hb); clear hb; (try clear hcz2); have hcz2 := bc4 BK2.out; (try clear hcz6); have hcz6 := bc4 BK6.out; (try clear hcz8); have hcz8 := bc4 BK8.out; have SX := SX_; clear SX_; have LX := LX_; clear LX_)
  | (go_at_call 9; clear T5; have LWG := Aside0.mk RW.out.rw.le; have LXG := Aside0.mk RX.out.le; have LSG := Aside0.mk LX.out; refine (impl_DoAll.calls k _ _ m.1 _ _ m.2.1 _ _ m.2.2.1 _ _ m.2.2.2 _ _ n g.1 g.2.1 g.2.2.1 g.2.2.2.1 g.2.2.2.2 _ (Kd.R_reads' RX.out.r0).2.2 (Kd.R_reads' RX.out.r0).2.1 (Kd.R_reads' RX.out.r1).2.2 (Kd.R_reads' RX.out.r1).2.1 (Kd.R_reads' RX.out.r2).2.2 (Kd.R_reads' RX.out.r2).2.1 (Kd.R_reads' RX.out.r3).2.2 (Kd.R_reads' RX.out.r3).2.1 (Kd.S_reads' SX.out).2.2 (Kd.S_reads' SX.out).2.1 AG.out).mono ?_; rintro e w' ⟨v0, v1, v2, v3, v4, rfl, ho0, ho1, ho2, ho3, ho4, hb⟩; have RG_ := Aside0.mk (Rc.of (w := w) ho0 ho1 ho2 ho3 ho4 HB.out.size); obtain ⟨G4, Gc4, rfl⟩ := Kd.R_slice ho4; clear ho0 ho1 ho2 ho3 ho4; replace BK2 := Aside0.mk (blk_below BK2.out hb); replace BK6 := Aside0.mk (blk_below BK6.out hb); replace BK8 := Aside0.mk (blk_below BK8.out hb); replace RW := Aside0.mk (RW.out.below hb); replace RX := Aside0.mk (RX.out.below hb); replace SX := Aside0.mk (Kd.S_below SX.out hb); replace LX := Aside0.mk (Nat.le_trans LX.out hb.size); replace HB := Aside0.mk (below_step HB.out hb); clear hb; (try clear hcz2); have hcz2 := bc4 BK2.out; (try clear hcz6); have hcz6 := bc4 BK6.out; (try clear hcz8); have hcz8 := bc4 BK8.out; have RG := RG_; clear RG_; obtain ⟨G0, G1, G2, G3, Gc0, Gc1, Gc2, Gc3, rfl, rfl, rfl, rfl⟩ := RG.out.rw.shape)
  | ((with_reducible refine gate_dst (N := 10) rfl ?_); refine al4_ (N := 10) RG.out.rw.one ?_; intro g10 w1 hg hbox hb; have BK10_ := Aside0.mk hbox; clear hbox hg; replace BK2 := Aside0.mk (blk_below BK2.out hb); replace BK6 := Aside0.mk (blk_below BK6.out hb); replace BK8 := Aside0.mk (blk_below BK8.out hb); replace RW := Aside0.mk (RW.out.below hb); replace RX := Aside0.mk (RX.out.below hb); replace RG := Aside0.mk (RG.out.below hb); replace SX := Aside0.mk (Kd.S_below SX.out hb); replace LX := Aside0.mk (Nat.le_trans LX.out hb.size); replace HB := Aside0.mk (below_step HB.out hb); clear hb; (try clear hcz2); have hcz2 := bc4 BK2.out; (try clear hcz6); have hcz6 := bc4 BK6.out; (try clear hcz8); have hcz8 := bc4 BK8.out; have BK10 := BK10_; clear BK10_; have hcz10 := bc4 BK10.out)
  | (go_at_call 10; clear TA; refine (laws_eqState.calls k _ _ g.1 _ _ g.2.1 _ _ g.2.2.1 _ _ g.2.2.2.1 _ _ s.1 _ _ s.2.1 _ _ s.2.2.1 _ _ s.2.2.2.1 _ _ (Kd.R_reads' RG.out.rw.r0).2.2 (Kd.R_reads' RG.out.rw.r0).2.1 (Kd.R_reads' RG.out.rw.r1).2.2 (Kd.R_reads' RG.out.rw.r1).2.1 (Kd.R_reads' RG.out.rw.r2).2.2 (Kd.R_reads' RG.out.rw.r2).2.1 (Kd.R_reads' RG.out.rw.r3).2.2 (Kd.R_reads' RG.out.rw.r3).2.1 (Kd.R_reads' RW.out.rw.r0).2.2 (Kd.R_reads' RW.out.rw.r0).2.1 (Kd.R_reads' RW.out.rw.r1).2.2 (Kd.R_reads' RW.out.rw.r1).2.1 (Kd.R_reads' RW.out.rw.r2).2.2 (Kd.R_reads' RW.out.rw.r2).2.1 (Kd.R_reads' RW.out.rw.r3).2.2 (Kd.R_reads' RW.out.rw.r3).2.1 AE1.out).mono ?_; rintro e w' ⟨rfl, hb⟩; replace BK2 := Aside0.mk (blk_below BK2.out hb); replace BK6 := Aside0.mk (blk_below BK6.out hb); replace BK8 := Aside0.mk (blk_below BK8.out hb); replace BK10 := Aside0.mk (blk_below BK10.out hb); replace RW := Aside0.mk (RW.out.below hb); replace RX := Aside0.mk (RX.out.below hb); replace RG := Aside0.mk (RG.out.below hb); replace SX := Aside0.mk (Kd.S_below SX.out hb); replace LX := Aside0.mk (Nat.le_trans LX.out hb.size); replace HB := Aside0.mk (below_step HB.out hb); clear hb; (try clear hcz2); have hcz2 := bc4 BK2.out; (try clear hcz6); have hcz6 := bc4 BK6.out; (try clear hcz8); have hcz8 := bc4 BK8.out; (try clear hcz10); have hcz10 := bc4 BK10.out)
  | (go_at_call 11; clear TB; refine (laws_eqIntS.calls k _ _ g.2.2.2.2 _ _ s.2.2.2.2 _ _ (Kd.R_reads' RG.out.cd).2.2 (Kd.R_reads' RG.out.cd).2.1 (Kd.R_reads' RW.out.cd).2.2 (Kd.R_reads' RW.out.cd).2.1 AE4.out).mono ?_; rintro e w' ⟨rfl, hb⟩; replace hb := drawn_below hb; replace BK2 := Aside0.mk (blk_below BK2.out hb); replace BK6 := Aside0.mk (blk_below BK6.out hb); replace BK8 := Aside0.mk (blk_below BK8.out hb); replace BK10 := Aside0.mk (blk_below BK10.out hb); replace RW := Aside0.mk (RW.out.below hb); replace RX := Aside0.mk (RX.out.below hb); replace RG := Aside0.mk (RG.out.below hb); replace SX := Aside0.mk (Kd.S_below SX.out hb); replace LX := Aside0.mk (Nat.le_trans LX.out hb.size); replace HB := Aside0.mk (below_step HB.out hb); clear hb; (try clear hcz2); have hcz2 := bc4 BK2.out; (try clear hcz6); have hcz6 := bc4 BK6.out; (try clear hcz8); have hcz8 := bc4 BK8.out; (try clear hcz10); have hcz10 := bc4 BK10.out)
  )
 refine startf_ (F := fun W => Below w'.heap.size w' W) (Below.refl _ _) (fun W h => below_drew h) (fun w_ hHeld => ?_)
 refine with_tab laws_FnExactDoAll.tab14 (fun HT_ => ?_)
 repeat (first | refine us_ ?_ | refine ps_ ?_ | refine ts_ hHeld ?_ (hc := take_of HT_.out (by kernel_rfl)) (hv := by intro w_ hs; have hc8_ := bc4 (blk_below BK8.out hs); have hc2_ := bc4 (blk_below BK2.out hs); go_simp; with_reducible rfl))
 have HBW := below_step HB.out hHeld
 refine oq_ Tryz.func7 (laws_toState.calls k _ _ l0_0 _ _ l0_1 _ _ l0_2 _ _ l0_3 _ _ _ _ _ (Kd.C_below HR0_0.out HBW) HC0_0.out (Kd.C_below HR0_1.out HBW) HC0_1.out (Kd.C_below HR0_2.out HBW) HC0_2.out (Kd.C_below HR0_3.out HBW) HC0_3.out AM.out) ?_
 rintro e w1 ⟨v0, v1, v2, v3, rfl, ho0, ho1, ho2, ho3, hb⟩
 refine ⟨_, rfl, below_step hHeld hb, fun hH => ?_⟩
 have RT := Aside0.mk (Rw.of (w := w) ho0 ho1 ho2 ho3 HBW.size)
 have RY := Aside0.mk (RX.out.below hH)
 clear ho0 ho1 ho2 ho3 hb
 obtain ⟨Z0, Z1, Z2, Z3, Zc0, Zc1, Zc2, Zc3, rfl, rfl, rfl, rfl⟩ := RT.out.shape
 simp only [Act.put, List.setIfInBounds_toArray, List.set_cons_zero, List.set_cons_succ]
 refine oq_ Tryz.func10 (laws_eqState.calls k _ _ m.1 _ _ m.2.1 _ _ m.2.2.1 _ _ m.2.2.2 _ _ m.1 _ _ m.2.1 _ _ m.2.2.1 _ _ m.2.2.2 _ _ (Kd.R_reads' RY.out.r0).2.2 (Kd.R_reads' RY.out.r0).2.1 (Kd.R_reads' RY.out.r1).2.2 (Kd.R_reads' RY.out.r1).2.1 (Kd.R_reads' RY.out.r2).2.2 (Kd.R_reads' RY.out.r2).2.1 (Kd.R_reads' RY.out.r3).2.2 (Kd.R_reads' RY.out.r3).2.1 (Kd.R_reads' RT.out.r0).2.2 (Kd.R_reads' RT.out.r0).2.1 (Kd.R_reads' RT.out.r1).2.2 (Kd.R_reads' RT.out.r1).2.1 (Kd.R_reads' RT.out.r2).2.2 (Kd.R_reads' RT.out.r2).2.1 (Kd.R_reads' RT.out.r3).2.2 (Kd.R_reads' RT.out.r3).2.1 AE2.out) ?_
 rintro e w2 ⟨rfl, hb⟩
 refine ⟨_, rfl, below_step hH hb, fun hH2 => ?_⟩
 clear RT RY hb
 simp only [Act.put, List.setIfInBounds_toArray, List.set_cons_zero, List.set_cons_succ]
 repeat (first | refine us_ ?_ | refine ps_ ?_)
 refine done_ (done_of HT_.out zK) ?_
 have hb := hH2
 clear HT_ hH hH2 hHeld HBW
 replace BK2 := Aside0.mk (blk_below BK2.out hb)
 replace BK6 := Aside0.mk (blk_below BK6.out hb)
 replace BK8 := Aside0.mk (blk_below BK8.out hb)
 replace BK10 := Aside0.mk (blk_below BK10.out hb)
 replace RW := Aside0.mk (RW.out.below hb)
 replace RX := Aside0.mk (RX.out.below hb)
 replace RG := Aside0.mk (RG.out.below hb)
 replace SX := Aside0.mk (Kd.S_below SX.out hb)
 replace LX := Aside0.mk (Nat.le_trans LX.out hb.size)
 replace HB := Aside0.mk (below_step HB.out hb)
 clear hb
 (try clear hcz2)
 have hcz2 := bc4 BK2.out
 (try clear hcz6)
 have hcz6 := bc4 BK6.out
 (try clear hcz8)
 have hcz8 := bc4 BK8.out
 (try clear hcz10)
 have hcz10 := bc4 BK10.out
 go_wp2_with (first
  | (go_at_call 8; clear T8; refine (laws_toActS.calls k _ _ l1 _ _ (Kd.C_below HR1.out HB.out) HC1.out AN.out).mono ?_; rintro e w' ⟨v, rfl, ho, hb⟩; obtain ⟨SB_a, SB_c, rfl⟩ := Kd.S_slice ho; have SB_ := Aside0.mk (sxI (w := w) ho HB.out.size); have LX_ := Aside0.mk (Nat.le_refl w'.heap.size); clear ho; replace BK2 := Aside0.mk (blk_below BK2.out hb); replace BK6 := Aside0.mk (blk_below BK6.out hb); replace BK8 := Aside0.mk (blk_below BK8.out hb); replace BK10 := Aside0.mk (blk_below BK10.out hb); replace RW := Aside0.mk (RW.out.below hb); replace RX := Aside0.mk (RX.out.below hb); replace RG := Aside0.mk (RG.out.below hb); replace SX := Aside0.mk (Kd.S_below SX.out hb); replace LX := Aside0.mk (Nat.le_trans LX.out hb.size); replace HB := Aside0.mk (below_step HB.out hb); clear hb; (try clear hcz2); have hcz2 := bc4 BK2.out; (try clear hcz6); have hcz6 := bc4 BK6.out; (try clear hcz8); have hcz8 := bc4 BK8.out; (try clear hcz10); have hcz10 := bc4 BK10.out; have SB := SB_; clear SB_; clear LX_)
  | (go_at_call 12; refine (laws_eqActS.calls k _ _ n _ _ n _ _ (Kd.S_reads' SX.out).2.2 (Kd.S_reads' SX.out).2.1 (Kd.S_reads' SB.out).2.2 (Kd.S_reads' SB.out).2.1 AE3.out).mono ?_; rintro e w' ⟨rfl, hb⟩; clear SB; replace BK2 := Aside0.mk (blk_below BK2.out hb); replace BK6 := Aside0.mk (blk_below BK6.out hb); replace BK8 := Aside0.mk (blk_below BK8.out hb); replace BK10 := Aside0.mk (blk_below BK10.out hb); replace RW := Aside0.mk (RW.out.below hb); replace RX := Aside0.mk (RX.out.below hb); replace RG := Aside0.mk (RG.out.below hb); replace SX := Aside0.mk (Kd.S_below SX.out hb); replace LX := Aside0.mk (Nat.le_trans LX.out hb.size); replace HB := Aside0.mk (below_step HB.out hb); clear hb; (try clear hcz2); have hcz2 := bc4 BK2.out; (try clear hcz6); have hcz6 := bc4 BK6.out; (try clear hcz8); have hcz8 := bc4 BK8.out; (try clear hcz10); have hcz10 := bc4 BK10.out)
  | (go_at_call 13; clear T6; refine (laws_markState.calls k _ _ m.1 _ _ m.2.1 _ _ m.2.2.1 _ _ m.2.2.2 1 _ _ _ _ _ w _ HB.out (Kd.R_tight rfl RX.out.r0) (Kd.R_tight rfl RX.out.r1) (Kd.R_tight rfl RX.out.r2) (Kd.R_tight rfl RX.out.r3) AX.out).mono ?_; rintro e w' ⟨rfl, h0, h1, h2, h3, hB, hK⟩; replace BK2 := Aside0.mk (blk_kept BK2.out hK (RX.out.notS BK2.out (by decide))); replace BK6 := Aside0.mk (blk_kept BK6.out hK (RX.out.notS BK6.out (by decide))); replace BK10 := Aside0.mk (blk_kept BK10.out hK (RX.out.notS BK10.out (by decide))); replace RW := Aside0.mk (RW.out.kept hK (fun k hk => by have h1_ := RX.out.inS k hk; have h2_ := LWX.out; omega)); replace RG := Aside0.mk (RG.out.kept hK (fun k hk => by have h1_ := RX.out.inS k hk; have h2_ := LXG.out; omega)); replace SX := Aside0.mk (Kd.S_kept SX.out hK (fun k hk hs => by have h1_ := RX.out.inS k hs; have h2_ := LXS.out; omega)); replace HB := Aside0.mk hB; clear h0 h1 h2 h3 hB hK RX BK8 hcz8; (try clear hcz2); have hcz2 := bc4 BK2.out; (try clear hcz6); have hcz6 := bc4 BK6.out; (try clear hcz10); have hcz10 := bc4 BK10.out)
  | (go_at_call 14; replace SX := Aside0.mk (Kd.S_bound SX.out); refine (laws_markActS.calls k _ _ n x.1 y.1 y.2 w _ HB.out SX.out AY.out).mono ?_; rintro e w' ⟨rfl, -, hB, hK⟩; clear SX; replace BK2 := Aside0.mk (blk_kept BK2.out hK (fun hk => by obtain ⟨-, -, -, q, hq, cs_, hc_⟩ := hk; rw [BK2.out] at hc_; injection hc_ with hc_; injection hc_ with _ hc_; subst hc_; exact absurd hq (by decide))); replace BK6 := Aside0.mk (blk_kept BK6.out hK (fun hk => by obtain ⟨-, -, -, q, hq, cs_, hc_⟩ := hk; rw [BK6.out] at hc_; injection hc_ with hc_; injection hc_ with _ hc_; subst hc_; exact absurd hq (by decide))); replace BK10 := Aside0.mk (blk_kept BK10.out hK (fun hk => by obtain ⟨-, -, -, q, hq, cs_, hc_⟩ := hk; rw [BK10.out] at hc_; injection hc_ with hc_; injection hc_ with _ hc_; subst hc_; exact absurd hq (by decide))); replace RW := Aside0.mk (RW.out.kept hK (fun k hk => by have h1_ := hk.1; have h2_ := LWS.out; omega)); replace RG := Aside0.mk (RG.out.kept hK (fun k hk => by have h1_ := hk.1; have h2_ := LSG.out; omega)); replace HB := Aside0.mk hB; clear hB hK; (try clear hcz2); have hcz2 := bc4 BK2.out; (try clear hcz6); have hcz6 := bc4 BK6.out; (try clear hcz10); have hcz10 := bc4 BK10.out)
  | (go_at_call 10; clear TC; refine (laws_eqState.calls k _ _ g.1 _ _ g.2.1 _ _ g.2.2.1 _ _ g.2.2.2.1 _ _ s.1 _ _ s.2.1 _ _ s.2.2.1 _ _ s.2.2.2.1 _ _ (Kd.R_reads' RG.out.rw.r0).2.2 (Kd.R_reads' RG.out.rw.r0).2.1 (Kd.R_reads' RG.out.rw.r1).2.2 (Kd.R_reads' RG.out.rw.r1).2.1 (Kd.R_reads' RG.out.rw.r2).2.2 (Kd.R_reads' RG.out.rw.r2).2.1 (Kd.R_reads' RG.out.rw.r3).2.2 (Kd.R_reads' RG.out.rw.r3).2.1 (Kd.R_reads' RW.out.rw.r0).2.2 (Kd.R_reads' RW.out.rw.r0).2.1 (Kd.R_reads' RW.out.rw.r1).2.2 (Kd.R_reads' RW.out.rw.r1).2.1 (Kd.R_reads' RW.out.rw.r2).2.2 (Kd.R_reads' RW.out.rw.r2).2.1 (Kd.R_reads' RW.out.rw.r3).2.2 (Kd.R_reads' RW.out.rw.r3).2.1 AE1.out).mono ?_; rintro e w' ⟨rfl, hb⟩; replace BK2 := Aside0.mk (blk_below BK2.out hb); replace BK6 := Aside0.mk (blk_below BK6.out hb); replace BK10 := Aside0.mk (blk_below BK10.out hb); replace RW := Aside0.mk (RW.out.below hb); replace RG := Aside0.mk (RG.out.below hb); replace HB := Aside0.mk (below_step HB.out hb); clear hb; (try clear hcz2); have hcz2 := bc4 BK2.out; (try clear hcz6); have hcz6 := bc4 BK6.out; (try clear hcz10); have hcz10 := bc4 BK10.out)
  | (go_at_call 11; clear TD_; refine (laws_eqIntS.calls k _ _ g.2.2.2.2 _ _ s.2.2.2.2 _ _ (Kd.R_reads' RG.out.cd).2.2 (Kd.R_reads' RG.out.cd).2.1 (Kd.R_reads' RW.out.cd).2.2 (Kd.R_reads' RW.out.cd).2.1 AE4.out).mono ?_; rintro e w' ⟨rfl, hb⟩; replace hb := drawn_below hb; replace BK2 := Aside0.mk (blk_below BK2.out hb); replace BK6 := Aside0.mk (blk_below BK6.out hb); replace BK10 := Aside0.mk (blk_below BK10.out hb); replace RW := Aside0.mk (RW.out.below hb); replace RG := Aside0.mk (RG.out.below hb); replace HB := Aside0.mk (below_step HB.out hb); clear hb; (try clear hcz2); have hcz2 := bc4 BK2.out; (try clear hcz6); have hcz6 := bc4 BK6.out; (try clear hcz10); have hcz10 := bc4 BK10.out)
  | (go_at_call 13; clear T7; refine (laws_markState.calls k _ _ g.1 _ _ g.2.1 _ _ g.2.2.1 _ _ g.2.2.2.1 1 _ _ _ _ _ w _ HB.out (Kd.R_tight rfl RG.out.rw.r0) (Kd.R_tight rfl RG.out.rw.r1) (Kd.R_tight rfl RG.out.rw.r2) (Kd.R_tight rfl RG.out.rw.r3) AZ.out).mono ?_; rintro e w' ⟨rfl, h0, h1, h2, h3, hB, hK⟩; replace BK2 := Aside0.mk (blk_kept BK2.out hK (RG.out.rw.notS BK2.out (by decide))); replace BK6 := Aside0.mk (blk_kept BK6.out hK (RG.out.rw.notS BK6.out (by decide))); replace BK10 := Aside0.mk (blk_kept BK10.out hK (RG.out.rw.notS BK10.out (by decide))); replace RW := Aside0.mk (RW.out.kept hK (fun k hk => by have h1_ := RG.out.rw.inS k hk; have h2_ := LWG.out; omega)); replace RG := Aside0.mk (RG.out.markS hK h0 h1 h2 h3); replace HB := Aside0.mk hB; clear h0 h1 h2 h3 hB hK; (try clear hcz2); have hcz2 := bc4 BK2.out; (try clear hcz6); have hcz6 := bc4 BK6.out; (try clear hcz10); have hcz10 := bc4 BK10.out)
  | (go_at_call 15; refine (laws_markIntS.calls k _ _ g.2.2.2.2 z.1 u.1 u.2 w _ HB.out (Kd.R_tight rfl RG.out.cd) AU.out).mono ?_; rintro e w' ⟨rfl, h0, hB, hK⟩; replace BK2 := Aside0.mk (blk_kept BK2.out hK (Kd.R_ne RG.out.cd BK2.out (by decide))); replace BK6 := Aside0.mk (blk_kept BK6.out hK (Kd.R_ne RG.out.cd BK6.out (by decide))); replace BK10 := Aside0.mk (blk_kept BK10.out hK (Kd.R_ne RG.out.cd BK10.out (by decide))); replace RW := Aside0.mk (RW.out.kept hK (fun k hk => by have h1_ := RG.out.cd.1 k hk.symm; have h2_ := LWG.out; have h3_ := h1_.1; have h4_ := h1_.2; omega)); replace RG := Aside0.mk (RG.out.markC hK h0); replace HB := Aside0.mk hB; clear h0 hB hK; (try clear hcz2); have hcz2 := bc4 BK2.out; (try clear hcz6); have hcz6 := bc4 BK6.out; (try clear hcz10); have hcz10 := bc4 BK10.out)
  | (go_at_call 16; clear TE; have e0 := (Kd.R_reads' RG.out.rw.r0).1; have e1 := (Kd.R_reads' RG.out.rw.r1).1; have e2 := (Kd.R_reads' RG.out.rw.r2).1; have e3 := (Kd.R_reads' RG.out.rw.r3).1; have hh := laws_heldState.calls k _ _ z.2.1 _ _ z.2.2.1 _ _ z.2.2.2.1 _ _ z.2.2.2.2 1 q _ (Kd.R_reads' RG.out.rw.r0).2.2 (Nat.le_trans (Nat.le_of_eq e0.symm) (Kd.R_reads' RG.out.rw.r0).2.1) (Kd.R_reads' RG.out.rw.r1).2.2 (Nat.le_trans (Nat.le_of_eq e1.symm) (Kd.R_reads' RG.out.rw.r1).2.1) (Kd.R_reads' RG.out.rw.r2).2.2 (Nat.le_trans (Nat.le_of_eq e2.symm) (Kd.R_reads' RG.out.rw.r2).2.1) (Kd.R_reads' RG.out.rw.r3).2.2 (Nat.le_trans (Nat.le_of_eq e3.symm) (Kd.R_reads' RG.out.rw.r3).2.1) AQ.out; rw [← e0, ← e1, ← e2, ← e3] at hh; refine hh.mono ?_; clear hh e0 e1 e2 e3; rintro e w' ⟨rfl, hb⟩; replace BK2 := Aside0.mk (blk_below BK2.out hb); replace BK6 := Aside0.mk (blk_below BK6.out hb); replace BK10 := Aside0.mk (blk_below BK10.out hb); replace RW := Aside0.mk (RW.out.below hb); replace RG := Aside0.mk (RG.out.below hb); replace HB := Aside0.mk (below_step HB.out hb); clear hb; (try clear hcz2); have hcz2 := bc4 BK2.out; (try clear hcz6); have hcz6 := bc4 BK6.out; (try clear hcz10); have hcz10 := bc4 BK10.out)
  | (go_at_call 17; clear TF; have e0 := (Kd.R_reads' RG.out.cd).1; have hh := laws_heldIntS.calls k _ _ u.2 q v _ (Kd.R_reads' RG.out.cd).2.2 (Nat.le_trans (Nat.le_of_eq e0.symm) (Kd.R_reads' RG.out.cd).2.1) AV.out; rw [← e0] at hh; refine hh.mono ?_; clear hh e0; rintro e w' ⟨rfl, hb⟩; replace hb := drawn_below hb; replace BK2 := Aside0.mk (blk_below BK2.out hb); replace BK6 := Aside0.mk (blk_below BK6.out hb); replace BK10 := Aside0.mk (blk_below BK10.out hb); replace RW := Aside0.mk (RW.out.below hb); replace RG := Aside0.mk (RG.out.below hb); replace HB := Aside0.mk (below_step HB.out hb); clear hb; (try clear hcz2); have hcz2 := bc4 BK2.out; (try clear hcz6); have hcz6 := bc4 BK6.out; (try clear hcz10); have hcz10 := bc4 BK10.out)
  | (go_at_call 7; clear T9; refine (laws_toState.calls k _ _ l0_0 _ _ l0_1 _ _ l0_2 _ _ l0_3 _ _ _ _ _ (Kd.C_below HR0_0.out HB.out) HC0_0.out (Kd.C_below HR0_1.out HB.out) HC0_1.out (Kd.C_below HR0_2.out HB.out) HC0_2.out (Kd.C_below HR0_3.out HB.out) HC0_3.out AM.out).mono ?_; rintro e w' ⟨v0, v1, v2, v3, rfl, ho0, ho1, ho2, ho3, hb⟩; have RB_ := Aside0.mk (Rw.of (w := w) ho0 ho1 ho2 ho3 HB.out.size); clear ho0 ho1 ho2 ho3; replace BK2 := Aside0.mk (blk_below BK2.out hb); replace BK6 := Aside0.mk (blk_below BK6.out hb); replace BK10 := Aside0.mk (blk_below BK10.out hb); replace RW := Aside0.mk (RW.out.below hb); replace RG := Aside0.mk (RG.out.below hb); replace HB := Aside0.mk (below_step HB.out hb); clear hb; (try clear hcz2); have hcz2 := bc4 BK2.out; (try clear hcz6); have hcz6 := bc4 BK6.out; (try clear hcz10); have hcz10 := bc4 BK10.out; have RB := RB_; clear RB_; obtain ⟨B0, B1, B2, B3, Bc0, Bc1, Bc2, Bc3, rfl, rfl, rfl, rfl⟩ := RB.out.shape)
  | (go_at_call 8; clear TG; clear BK2 hcz2; refine (laws_toActS.calls k _ _ l1 _ _ (Kd.C_below HR1.out HB.out) HC1.out AN.out).mono ?_; rintro e w' ⟨v, rfl, ho, hb⟩; obtain ⟨SC_a, SC_c, rfl⟩ := Kd.S_slice ho; have SC_ := Aside0.mk (sxI (w := w) ho HB.out.size); have LX_ := Aside0.mk (Nat.le_refl w'.heap.size); clear ho; replace BK6 := Aside0.mk (blk_below BK6.out hb); replace BK10 := Aside0.mk (blk_below BK10.out hb); replace RW := Aside0.mk (RW.out.below hb); replace RG := Aside0.mk (RG.out.below hb); replace RB := Aside0.mk (RB.out.below hb); replace HB := Aside0.mk (below_step HB.out hb); clear hb; (try clear hcz6); have hcz6 := bc4 BK6.out; (try clear hcz10); have hcz10 := bc4 BK10.out; have SC := SC_; clear SC_; clear LX_)
  | (go_at_call 9; clear TH; refine (impl_DoAll.calls k _ _ m.1 _ _ m.2.1 _ _ m.2.2.1 _ _ m.2.2.2 _ _ n g.1 g.2.1 g.2.2.1 g.2.2.2.1 g.2.2.2.2 _ (Kd.R_reads' RB.out.r0).2.2 (Kd.R_reads' RB.out.r0).2.1 (Kd.R_reads' RB.out.r1).2.2 (Kd.R_reads' RB.out.r1).2.1 (Kd.R_reads' RB.out.r2).2.2 (Kd.R_reads' RB.out.r2).2.1 (Kd.R_reads' RB.out.r3).2.2 (Kd.R_reads' RB.out.r3).2.1 (Kd.S_reads' SC.out).2.2 (Kd.S_reads' SC.out).2.1 AG.out).mono ?_; rintro e w' ⟨v0, v1, v2, v3, v4, rfl, ho0, ho1, ho2, ho3, ho4, hb⟩; have RH_ := Aside0.mk (Rc.of (w := w) ho0 ho1 ho2 ho3 ho4 HB.out.size); obtain ⟨H4, Hc4, rfl⟩ := Kd.R_slice ho4; clear ho0 ho1 ho2 ho3 ho4 RB SC; replace BK6 := Aside0.mk (blk_below BK6.out hb); replace BK10 := Aside0.mk (blk_below BK10.out hb); replace RW := Aside0.mk (RW.out.below hb); replace RG := Aside0.mk (RG.out.below hb); replace HB := Aside0.mk (below_step HB.out hb); clear hb; (try clear hcz6); have hcz6 := bc4 BK6.out; (try clear hcz10); have hcz10 := bc4 BK10.out; have RH := RH_; clear RH_; obtain ⟨H0, H1, H2, H3, Hc0, Hc1, Hc2, Hc3, rfl, rfl, rfl, rfl⟩ := RH.out.rw.shape)
  | ((with_reducible refine gate_dst (N := 15) rfl ?_); refine al4_ (N := 15) RH.out.rw.one ?_; intro g15 w1 hg hbox hb; have BK15_ := Aside0.mk hbox; clear hbox hg; replace BK6 := Aside0.mk (blk_below BK6.out hb); replace BK10 := Aside0.mk (blk_below BK10.out hb); replace RW := Aside0.mk (RW.out.below hb); replace RG := Aside0.mk (RG.out.below hb); replace RH := Aside0.mk (RH.out.below hb); replace HB := Aside0.mk (below_step HB.out hb); clear hb; (try clear hcz6); have hcz6 := bc4 BK6.out; (try clear hcz10); have hcz10 := bc4 BK10.out; have BK15 := BK15_; clear BK15_; have hcz15 := bc4 BK15.out)
  | (go_at_call 10; clear TI; refine (laws_eqState.calls k _ _ g.1 _ _ g.2.1 _ _ g.2.2.1 _ _ g.2.2.2.1 _ _ s.1 _ _ s.2.1 _ _ s.2.2.1 _ _ s.2.2.2.1 _ _ (Kd.R_reads' RH.out.rw.r0).2.2 (Kd.R_reads' RH.out.rw.r0).2.1 (Kd.R_reads' RH.out.rw.r1).2.2 (Kd.R_reads' RH.out.rw.r1).2.1 (Kd.R_reads' RH.out.rw.r2).2.2 (Kd.R_reads' RH.out.rw.r2).2.1 (Kd.R_reads' RH.out.rw.r3).2.2 (Kd.R_reads' RH.out.rw.r3).2.1 (Kd.R_reads' RW.out.rw.r0).2.2 (Kd.R_reads' RW.out.rw.r0).2.1 (Kd.R_reads' RW.out.rw.r1).2.2 (Kd.R_reads' RW.out.rw.r1).2.1 (Kd.R_reads' RW.out.rw.r2).2.2 (Kd.R_reads' RW.out.rw.r2).2.1 (Kd.R_reads' RW.out.rw.r3).2.2 (Kd.R_reads' RW.out.rw.r3).2.1 AE1.out).mono ?_; rintro e w' ⟨rfl, hb⟩; replace BK6 := Aside0.mk (blk_below BK6.out hb); replace BK10 := Aside0.mk (blk_below BK10.out hb); replace BK15 := Aside0.mk (blk_below BK15.out hb); replace RW := Aside0.mk (RW.out.below hb); replace RG := Aside0.mk (RG.out.below hb); replace RH := Aside0.mk (RH.out.below hb); replace HB := Aside0.mk (below_step HB.out hb); clear hb; (try clear hcz6); have hcz6 := bc4 BK6.out; (try clear hcz10); have hcz10 := bc4 BK10.out; (try clear hcz15); have hcz15 := bc4 BK15.out)
  | (go_at_call 11; clear TJ; refine (laws_eqIntS.calls k _ _ g.2.2.2.2 _ _ s.2.2.2.2 _ _ (Kd.R_reads' RH.out.cd).2.2 (Kd.R_reads' RH.out.cd).2.1 (Kd.R_reads' RW.out.cd).2.2 (Kd.R_reads' RW.out.cd).2.1 AE4.out).mono ?_; rintro e w' ⟨rfl, hb⟩; clear BK6 BK15 hcz6 hcz15 RW RH; replace hb := drawn_below hb; replace BK10 := Aside0.mk (blk_below BK10.out hb); replace RG := Aside0.mk (RG.out.below hb); replace HB := Aside0.mk (below_step HB.out hb); clear hb; (try clear hcz10); have hcz10 := bc4 BK10.out)
  | (go_at_call 16; clear TK; have e0 := (Kd.R_reads' RG.out.rw.r0).1; have e1 := (Kd.R_reads' RG.out.rw.r1).1; have e2 := (Kd.R_reads' RG.out.rw.r2).1; have e3 := (Kd.R_reads' RG.out.rw.r3).1; have hh := laws_heldState.calls k _ _ z.2.1 _ _ z.2.2.1 _ _ z.2.2.2.1 _ _ z.2.2.2.2 1 q _ (Kd.R_reads' RG.out.rw.r0).2.2 (Nat.le_trans (Nat.le_of_eq e0.symm) (Kd.R_reads' RG.out.rw.r0).2.1) (Kd.R_reads' RG.out.rw.r1).2.2 (Nat.le_trans (Nat.le_of_eq e1.symm) (Kd.R_reads' RG.out.rw.r1).2.1) (Kd.R_reads' RG.out.rw.r2).2.2 (Nat.le_trans (Nat.le_of_eq e2.symm) (Kd.R_reads' RG.out.rw.r2).2.1) (Kd.R_reads' RG.out.rw.r3).2.2 (Nat.le_trans (Nat.le_of_eq e3.symm) (Kd.R_reads' RG.out.rw.r3).2.1) AQ.out; rw [← e0, ← e1, ← e2, ← e3] at hh; refine hh.mono ?_; clear hh e0 e1 e2 e3; rintro e w' ⟨rfl, hb⟩; clear BK10 hcz10; replace RG := Aside0.mk (RG.out.below hb); replace HB := Aside0.mk (below_step HB.out hb); clear hb)
  | (go_at_call 17; clear TL; have e0 := (Kd.R_reads' RG.out.cd).1; have hh := laws_heldIntS.calls k _ _ u.2 q v _ (Kd.R_reads' RG.out.cd).2.2 (Nat.le_trans (Nat.le_of_eq e0.symm) (Kd.R_reads' RG.out.cd).2.1) AV.out; rw [← e0] at hh; refine hh.mono ?_; clear hh e0; rintro e w' ⟨rfl, hb⟩; replace hb := drawn_below hb; replace HB := Aside0.mk (below_step HB.out hb); clear hb)
  )
 go_ret
 exact ⟨rfl, HB.out⟩
end Go.Proofs.YtbanogkoaplcdaaGreat.QDa
