/- Parts of the proof of FnExactDoAll, one behind the other. No condition. -/
import Derived.Test.YtbanogkoaplcdaaGreatVFnExactDoAllM19
namespace Go.Proofs.YtbanogkoaplcdaaGreat.QDa
open Go.RowKit Go.Proofs.YtbanogkoaplcdaaGreat.Reg9 Go.Proofs.YtbanogkoaplcdaaGreat.Lock Go.Proofs.YtbanogkoaplcdaaGreat.Auto Go.Proofs.YtbanogkoaplcdaaGreat.Short Go.Proofs.YtbanogkoaplcdaaGreatW.PrintWords Go.Proofs.YtbanogkoaplcdaaGreatW.PrintLast Go.Proofs.YtbanogkoaplcdaaGreatW.PrintMore
set_option linter.unusedVariables false
set_option linter.unusedSimpArgs false
def spec_l07Clear.l0 : Nat → Bool → ByteArray → ByteArray → List Int → List (S93) → List (S93) → Int → Option (List (S93))
  | 0, _, _, _, _, _, _, _ => none
  | k + 1, m, o, ky, kn, xs, out, i => if i < (xs.length : Int) then (if 0 ≤ i then (if (((rd_T93 xs i).f0) != m) = true then (if out.length < 2199023255552 then (spec_l07Clear.l0 k m o ky kn xs (out ++ [(⟨(rd_T93 xs i).f0, (rd_T93 xs i).f1, (rd_T93 xs i).f2, (rd_T93 xs i).f3, (⟨(rd_T93 xs i).f4.f0, (rd_T93 xs i).f4.f1⟩ : S59)⟩ : S93)]) (wrap64 (i + 1))) else (none)) else (if ((rd_T93 xs i).f1).toList = o.toList then (if ((rd_T93 xs i).f2).toList = ky.toList then ((spec_Knows.f k kn ((rd_T93 xs i).f4.f0) ((rd_T93 xs i).f4.f1)).bind fun t => (if t = true then (spec_l07Clear.l0 k m o ky kn xs out (wrap64 (i + 1))) else (if out.length < 2199023255552 then (spec_l07Clear.l0 k m o ky kn xs (out ++ [(⟨(rd_T93 xs i).f0, (rd_T93 xs i).f1, (rd_T93 xs i).f2, (rd_T93 xs i).f3, (⟨(rd_T93 xs i).f4.f0, (rd_T93 xs i).f4.f1⟩ : S59)⟩ : S93)]) (wrap64 (i + 1))) else (none)))) else (if out.length < 2199023255552 then (spec_l07Clear.l0 k m o ky kn xs (out ++ [(⟨(rd_T93 xs i).f0, (rd_T93 xs i).f1, (rd_T93 xs i).f2, (rd_T93 xs i).f3, (⟨(rd_T93 xs i).f4.f0, (rd_T93 xs i).f4.f1⟩ : S59)⟩ : S93)]) (wrap64 (i + 1))) else (none))) else (if out.length < 2199023255552 then (spec_l07Clear.l0 k m o ky kn xs (out ++ [(⟨(rd_T93 xs i).f0, (rd_T93 xs i).f1, (rd_T93 xs i).f2, (rd_T93 xs i).f3, (⟨(rd_T93 xs i).f4.f0, (rd_T93 xs i).f4.f1⟩ : S59)⟩ : S93)]) (wrap64 (i + 1))) else (none)))) else (none)) else (some out)
def spec_l07Clear.f (k : Nat) (xs : List (S93)) (m : Bool) (o ky : ByteArray) (kn : List Int) : Option (List (S93)) := spec_l07Clear.l0 k m o ky kn xs [] 0
set_option maxHeartbeats 8000000 in
set_option maxRecDepth 100000 in
theorem spec_l07Clear.calls (k : Nat) (g base : Nat) (s0 s1 s3 : Value) (A0 : Option Addr) (c0 : Nat) (l0 : List (S93)) (m : Bool) (o ky : ByteArray) (A1 : Option Addr) (c1 : Nat) (l1 : List Int) (r : List (S93)) (w : World) (hbk : w.heap[g]? = some (.cells #[s0, s1, .slice A0 l0.length c0, s3] 35 (0, 0))) (hr0 : Kd.C k93 w A0 l0.length l0) (hc0 : l0.length ≤ c0) (hr1 : Kd.C (Kd.int .i64) w A1 l1.length l1) (hc1 : l1.length ≤ c1) (hbs : base ≤ w.heap.size) (hgb : base ≤ g) (h : spec_l07Clear.f k l0 m o ky l1 = some r) :
  Calls Tryz.prog 81 #[.pointer (some ⟨g, 0, none⟩), .bool m, .string o, .string ky, .slice A1 l1.length c1] w fun e w' => e = .returned (.tuple #[]) ∧ ∃ s2 : Value, w'.heap[g]? = some (.cells #[s0, s1, s2, s3] 35 (0, 0)) ∧ Kd.R k93 93 w' w.heap.size (fun _ => True) s2 r ∧ KeepBut w w' g none ∧ Below base w w' := by
 have hu35 := Tryz.underlying35
 have hu93 := Tryz.underlying93
 have hu59 := Tryz.underlying59
 have HR0 := Aside0.mk hr0
 have HC0 := Aside0.mk hc0
 have HR1 := Aside0.mk hr1
 have HC1 := Aside0.mk hc1
 have BK := Aside0.mk hbk
 have HB := Aside0.mk (Below.refl w.heap.size w)
 have H' := Aside0.mk h
 have hgl := Aside0.mk (blk_lt hbk)
 clear h hr0 hc0 hr1 hc1 hbk
 go_enter Tryz.func81, Tryz.ntmps81
 go_wp2_with (((with_reducible refine gate_dst (N := 13) rfl ?_); refine rl_ k93 93 (N := 13) zB ?_; intro v1 w1 ho hb; have HO := Aside0.mk (Kd.R_mono ho (ok' := fun k => k ≠ g) (fun k hk => Kd.freshB zKf k hk.2)); replace BK := bb_ BK zKf hb; replace HB := Aside0.mk (below_step zB hb); clear ho hb))
 go_loopg [10, 11] k (fun kq v10 v11 w' => ∃ (xs : List (S93)) (x : Int), v11 = .int .i64 x ∧ Aside0 (spec_l07Clear.l0 kq m o ky l1 l0 xs x = some r) ∧ Aside0 (kq ≤ k) ∧ Aside0 (Kd.R k93 93 w' w.heap.size (fun _ => True) v10 xs) ∧ Aside0 (w'.heap[g]? = some (.cells #[s0, s1, .slice A0 l0.length c0, s3] 35 (0, 0))) ∧ Aside0 (Below w.heap.size w w'))
 case atStart => exact ⟨[], 0, zR, H', ⟨Nat.le_refl _⟩, ⟨zO⟩, ⟨zKf⟩, ⟨zB⟩⟩
 case round =>
  clear H' BK HB HO
  obtain ⟨xs, x, rfl, HA, HK1, HO, BK, HB⟩ := hrel
  cases gk with
  | zero => exact absurd HA.out (by simp [spec_l07Clear.l0])
  | succ k1 =>
   have H := HA.out
   clear HA
   simp only [spec_l07Clear.l0] at H
   have hcz := bc4 BK.out
   replace H := ite_lt H
   rcases H with ⟨c, H⟩ | ⟨c, H⟩
   rotate_left
   ·
    obtain rfl := Option.some.inj H
    obtain ⟨A2, c2, rfl⟩ := Kd.R_slice HO.out
    go_wp2
    exact bodyPost_end (v := .tuple #[]) (by simp [results, Tryz.results81, go_sem]) rfl ⟨rfl, _, bp4_2 BK.out, R_setT HO.out BK.out (by decide) rfl _, KeepBut.set_ (KeepBut.of_below HB.out g none) 2 _, (HB.out.mono hbs).setCell hgb _⟩
   replace H := ite_le H
   rcases H with ⟨c', H⟩ | ⟨c', H⟩
   rotate_left
   · exact none_o H
   obtain ⟨ad, e, hx⟩ := at_T93 HR0.out x (of_decide_eq_true c') (of_decide_eq_true c)
   cases e
   have p := eqt c
   have p' := eqt c'
   have hy := cb6 HB.out hx
   repeat' (first
    | ((with_reducible refine none_o H); done)
    | ((with_reducible replace H := ite_t (by with_reducible assumption) H))
    | ((with_reducible replace H := ite_f (by with_reducible assumption) H))
    | ((with_reducible replace H := ite_n H); obtain ⟨LM, H⟩ := H)
    | ((with_reducible replace H := ite_lt H); rcases H with ⟨c1, H⟩ | ⟨c1, H⟩)
    | ((with_reducible replace H := ite_le H); rcases H with ⟨c1, H⟩ | ⟨c1, H⟩)
    | ((with_reducible replace H := ite_nb H); rcases H with ⟨c1, H⟩ | ⟨c1, H⟩)
    | ((with_reducible replace H := ite_b H); rcases H with ⟨c1, H⟩ | ⟨c1, H⟩ <;> (fail_if_success subst c1))
    | ((with_reducible replace H := ite_ei H); rcases H with ⟨c1, H⟩ | ⟨c1, H⟩)
    | ((with_reducible replace H := ite_es H); rcases H with ⟨c1, H⟩ | ⟨c1, H⟩)
    | ((with_reducible replace H := bind_s H); (try dsimp only at H))
    | ((with_reducible replace H := bind_o H); obtain ⟨t, A, H⟩ := H; (try dsimp only at H))
    | ((with_reducible replace H := ite_b H); rcases H with ⟨rfl, H⟩ | ⟨rfl, H⟩)
    )
   all_goals
    have H' := Aside0.mk H
    clear H
    go_wp2_with (first
      | ((with_reducible refine gate_dst (N := 12) rfl ?_); refine bx_ (N := 12) ?_; intro g2 hg w1 hbox hb; have BK2 := Aside0.mk hbox; have GE2 := gw_ w zB hg; replace HO := Aside0.mk (Kd.R_below (Kd.R_elderB zO g2 (Nat.le_of_eq hg.symm)) hb); replace HB := Aside0.mk (below_step zB hb); have NB := nb_ BK zKf hg; have NB' := nc_ BK zKf hg; replace BK := bb_ BK zKf hb; clear hb hbox hg; have hn := NB.out; have hn' := NB'.out; have hcz2 := bc6 BK2.out; have hcz := bc4 BK.out)
      | (go_at_call 48; (with_reducible refine (spec_Knows.calls _ _ _ _ _ _ _ _ zC zL zA).mono ?_); rintro e w' ⟨rfl, hb⟩; (with_reducible first | replace HO := Aside0.mk (Kd.R_below HO.out hb) | replace HO := Aside0.mk (Kd.R_below (farR6 HO.out) hb)); replace BK := bb_ BK zKf hb; (with_reducible first | replace BK2 := Aside0.mk (blk_below BK2.out hb) | replace BK2 := Aside0.mk (blk_below (blk_drewN BK2.out _) hb) | replace BK2 := Aside0.mk (blk_below (bpa6 BK2.out) hb) | replace BK2 := Aside0.mk (blk_below (blk_drewN (bpa6 BK2.out) _) hb)); have hcz := bc4 BK.out; have hcz2 := bc6 BK2.out; replace HB := Aside0.mk (below_step zB hb); clear hb)
      | (at_builtin; refine apk_ (ok := fun k => True) mk93 Tryz.underlying32 info93 zO zF zB (below_size zB) (ap_n (by with_reducible assumption)) ?_; intro v1 w1 ho hb hg; replace BK := Aside0.mk (blk_grown zKf hg (Kd.R_ne HO.out BK.out (by decide))); replace HB := Aside0.mk hb; replace HO := Aside0.mk ho; clear ho hb hg))
    go_roundg k1
    case measure => exact zM
    case rel => exact ⟨_, _, zR, H', ⟨zM⟩, ⟨zO⟩, ⟨zKf⟩, ⟨zB⟩⟩
end Go.Proofs.YtbanogkoaplcdaaGreat.QDa
namespace Go.Proofs.YtbanogkoaplcdaaGreat.QDa
open Go.RowKit Go.Proofs.YtbanogkoaplcdaaGreatW.PrintWords Go.Proofs.YtbanogkoaplcdaaGreatW.PrintLast Go.Proofs.YtbanogkoaplcdaaGreatW.PrintMore
attribute [local go_sem] max2_int min2_int max_two min_two max_three min_three max_four min_four   -- for this text's walks alone
set_option linter.unusedVariables false
set_option linter.unusedSimpArgs false
theorem eqA59 (d : Nat) (w : World) (x0 y0 : Int) (x1 y1 : Int) :
  (Op.equalIn (d + 2) 59 (.agg #[.int .i64 x0, .int .i64 x1]) (.agg #[.int .i64 y0, .int .i64 y1])).run Tryz.prog w = .ok (x0 == y0 && (x1 == y1)) w := by
 refine eqA_of Tryz.underlying59 (by kernel_rfl) ?_
 refine eqf_cons (by rfl) (by go_simp; rfl) (by go_simp; rfl) (by go_simp) ?_
 exact eqf_last (by rfl) (by go_simp; rfl) (by go_simp; rfl) (by go_simp)
end Go.Proofs.YtbanogkoaplcdaaGreat.QDa
