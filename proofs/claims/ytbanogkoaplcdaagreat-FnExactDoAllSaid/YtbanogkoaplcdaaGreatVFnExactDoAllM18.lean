/- Parts of the proof of FnExactDoAll, one behind the other. No condition. -/
import Derived.Test.YtbanogkoaplcdaaGreatVFnExactDoAllM1
import Derived.Test.YtbanogkoaplcdaaGreatVFnExactDoAllM2
namespace Go.Proofs.YtbanogkoaplcdaaGreat.QDa
open Go.RowKit Go.Proofs.YtbanogkoaplcdaaGreat.Reg10 Go.Proofs.YtbanogkoaplcdaaGreat.Reg9 Go.Proofs.YtbanogkoaplcdaaGreat.Lock Go.Proofs.YtbanogkoaplcdaaGreat.Auto Go.Proofs.YtbanogkoaplcdaaGreat.Short Go.Proofs.YtbanogkoaplcdaaGreatW.PrintWords Go.Proofs.YtbanogkoaplcdaaGreatW.PrintLast Go.Proofs.YtbanogkoaplcdaaGreatW.PrintMore
attribute [local go_sem] gtr_str
set_option linter.unusedVariables false
set_option linter.unusedSimpArgs false
def spec_l07Tally.l1 : Nat → ByteArray → Int → Int → List (S90) → List (S90) → Bool → Int → Option (List (S90))
  | 0, _, _, _, _, _, _, _ => none
  | k + 1, o, rp, vl, xs, out, pt, i => if i < (xs.length : Int) then (if 0 ≤ i then (if pt = true then (if out.length < 2199023255552 then (spec_l07Tally.l1 k o rp vl xs (out ++ [(⟨(rd_T90 xs i).f0, (rd_T90 xs i).f1, (rd_T90 xs i).f2⟩ : S90)]) true (wrap64 (i + 1))) else (none)) else (if (Op.bytesLess o.toList (((rd_T90 xs i).f0).toList)) = true then (if out.length < 2199023255552 then ((some (out ++ [(⟨o, rp, vl⟩ : S90)] : List (S90))).bind fun y => (if y.length < 2199023255552 then (spec_l07Tally.l1 k o rp vl xs (y ++ [(⟨(rd_T90 xs i).f0, (rd_T90 xs i).f1, (rd_T90 xs i).f2⟩ : S90)]) true (wrap64 (i + 1))) else (none))) else (none)) else (if ((rd_T90 xs i).f0).toList = o.toList then (if rp < ((rd_T90 xs i).f1) then (if out.length < 2199023255552 then ((some (out ++ [(⟨o, rp, vl⟩ : S90)] : List (S90))).bind fun y => (if y.length < 2199023255552 then (spec_l07Tally.l1 k o rp vl xs (y ++ [(⟨(rd_T90 xs i).f0, (rd_T90 xs i).f1, (rd_T90 xs i).f2⟩ : S90)]) true (wrap64 (i + 1))) else (none))) else (none)) else (if out.length < 2199023255552 then (spec_l07Tally.l1 k o rp vl xs (out ++ [(⟨(rd_T90 xs i).f0, (rd_T90 xs i).f1, (rd_T90 xs i).f2⟩ : S90)]) false (wrap64 (i + 1))) else (none))) else (if out.length < 2199023255552 then (spec_l07Tally.l1 k o rp vl xs (out ++ [(⟨(rd_T90 xs i).f0, (rd_T90 xs i).f1, (rd_T90 xs i).f2⟩ : S90)]) false (wrap64 (i + 1))) else (none))))) else (none)) else (if pt = true then (some out) else (if out.length < 2199023255552 then (some (out ++ [(⟨o, rp, vl⟩ : S90)])) else (none)))
def spec_l07Tally.l0 : Nat → ByteArray → Int → Int → List (S90) → Int → Option (List (S90))
  | 0, _, _, _, _, _ => none
  | k + 1, o, rp, vl, xs, i => if i < (xs.length : Int) then (if 0 ≤ i then (if ((rd_T90 xs i).f0).toList = o.toList then (if ((rd_T90 xs i).f1) = rp then (some (xs.set i.toNat (⟨(rd_T90 xs i).f0, (rd_T90 xs i).f1, Int.tmod (wrap64 ((rd_T90 xs i).f2 + vl)) 1000000⟩ : S90))) else (spec_l07Tally.l0 k o rp vl xs (wrap64 (i + 1)))) else (spec_l07Tally.l0 k o rp vl xs (wrap64 (i + 1)))) else (none)) else (spec_l07Tally.l1 k o rp vl xs [] false 0)
def spec_l07Tally.f (k : Nat) (xs : List (S90)) (o : ByteArray) (rp vl : Int) : Option (List (S90)) := spec_l07Tally.l0 k o rp vl xs 0
def spec_l07Tally.T5 : Bool × List (List Nat × List Nat) := (true, [([], []), ([0], [0]), ([1], [1]), ([2], [2]), ([], []), ([], []), ([5], [5]), ([], []), ([6, 7], [6, 7]), ([8], [8]), ([3, 4, 0, 1, 2, 3, 4, 5, 6, 7, 8, 9], [3, 4]), ([10, 0, 1, 2, 3, 4, 5, 6, 7, 8, 9], [10]), ([11, 9, 0, 1, 2, 3, 4, 5, 6, 7, 8, 9], [9, 11])])
theorem spec_l07Tally.tab5 : rtab .any (opsOf Tryz.f79 5) = spec_l07Tally.T5 := by kernel_rfl
set_option maxHeartbeats 8000000 in
set_option maxRecDepth 100000 in
theorem spec_l07Tally.calls (k : Nat) (g base : Nat) (s0 s2 s3 : Value) (A0 : Option Addr) (c0 : Nat) (l0 : List (S90)) (o : ByteArray) (rp vl : Int) (r : List (S90)) (w : World) (hbk : w.heap[g]? = some (.cells #[s0, .slice A0 l0.length c0, s2, s3] 35 (0, 0))) (hr0 : Kd.R k90 90 w base (fun _ => True) (.slice A0 l0.length c0) l0) (hbs : base ≤ w.heap.size) (hgb : base ≤ g) (h : spec_l07Tally.f k l0 o rp vl = some r) :
  Calls Tryz.prog 79 #[.pointer (some ⟨g, 0, none⟩), .string o, .int .i64 rp, .int .i64 vl] w fun e w' => e = .returned (.tuple #[]) ∧ ∃ s1 : Value, w'.heap[g]? = some (.cells #[s0, s1, s2, s3] 35 (0, 0)) ∧ Kd.R k90 90 w' base (fun _ => True) s1 r ∧ KeepBut w w' g (Value.slice A0 l0.length c0).ownBlock ∧ Below base w w' := by
 have hu35 := Tryz.underlying35
 have hu90 := Tryz.underlying90
 have HO0 := Aside0.mk hr0
 have HR0 := Aside0.mk (Kd.R_reads' hr0).2.2
 have HC0 := Aside0.mk (Kd.R_reads' hr0).2.1
 have BK := Aside0.mk hbk
 have BKW := Aside0.mk hbk
 have HB := Aside0.mk (Below.refl w.heap.size w)
 have H' := Aside0.mk h
 have HBS := Aside0.mk hbs
 clear h hr0 hbk hbs
 go_enter Tryz.func79, Tryz.ntmps79
 go_wp2
 go_loopg [8] k (fun kq v8 w' => ∃ (x : Int), v8 = .int .i64 x ∧ Aside0 (spec_l07Tally.l0 kq o rp vl l0 x = some r) ∧ Aside0 (kq ≤ k) ∧ Aside0 (w'.heap[g]? = some (.cells #[s0, .slice A0 l0.length c0, s2, s3] 35 (0, 0))) ∧ Aside0 (Below w.heap.size w w'))
 case atStart => exact ⟨0, zR, H', ⟨Nat.le_refl _⟩, ⟨BK.out⟩, ⟨zB⟩⟩
 case round =>
  clear H' BK HB
  obtain ⟨x, rfl, HA, HK1, BK, HB⟩ := hrel
  cases gk with
  | zero => exact absurd HA.out (by simp [spec_l07Tally.l0])
  | succ k1 =>
   have H := HA.out
   clear HA
   simp only [spec_l07Tally.l0] at H
   have hcz := bc4 BK.out
   replace H := ite_lt H
   rcases H with ⟨c, H⟩ | ⟨c, H⟩
   ·
    replace H := ite_le H
    rcases H with ⟨c', H⟩ | ⟨c', H⟩
    rotate_left
    · exact none_o H
    obtain ⟨ad, e, hx⟩ := at_T90 HR0.out x (of_decide_eq_true c') (of_decide_eq_true c)
    cases e
    have p := eqt c
    have p' := eqt c'
    have hy := cb3 HB.out hx
    repeat' (first
     | ((with_reducible refine none_o H); done)
     | ((with_reducible replace H := ite_t (by with_reducible assumption) H))
     | ((with_reducible replace H := ite_f (by with_reducible assumption) H))
     | ((with_reducible replace H := ite_n H); obtain ⟨LM, H⟩ := H)
     | ((with_reducible replace H := ite_lt H); rcases H with ⟨c1, H⟩ | ⟨c1, H⟩)
     | ((with_reducible replace H := ite_le H); rcases H with ⟨c1, H⟩ | ⟨c1, H⟩)
     | ((with_reducible replace H := ite_nb H); rcases H with ⟨c1, H⟩ | ⟨c1, H⟩)
     | ((with_reducible replace H := ite_b H); rcases H with ⟨c1, H⟩ | ⟨c1, H⟩ <;> (fail_if_success subst c1))
     | ((with_reducible replace H := ite_ei H); rcases H with ⟨c1, H⟩ | ⟨c1, H⟩)
     | ((with_reducible replace H := ite_es H); rcases H with ⟨c1, H⟩ | ⟨c1, H⟩)
     | ((with_reducible replace H := bind_s H); (try dsimp only at H))
     | ((with_reducible replace H := bind_o H); obtain ⟨t, A, H⟩ := H; (try dsimp only at H))
     | ((with_reducible replace H := ite_b H); rcases H with ⟨rfl, H⟩ | ⟨rfl, H⟩)
     )
    all_goals
     have H' := Aside0.mk H
     clear H
     go_wp2_with ((with_reducible refine gate_dst (N := 9) rfl ?_); refine bx_ (N := 9) ?_; intro g2 hg w1 hbox hb; have BK2 := Aside0.mk hbox; have GE2 := gw_ w zB hg; replace HB := Aside0.mk (below_step zB hb); have NB := nb_ BK zKf hg; have NB' := nc_ BK zKf hg; replace BK := bb_ BK zKf hb; clear hb hbox hg; have hn := NB.out; have hn' := NB'.out; have hcz2 := bc3 BK2.out; have hcz := bc4 BK.out)
    all_goals first
     | (go_roundg k1; (case measure => exact zM); (case rel => exact ⟨_, zR, H', ⟨zM⟩, ⟨zKf⟩, ⟨zB⟩⟩))
     | skip
    have H := H'.out
    obtain rfl := Option.some.inj H
    clear H H'
    obtain ⟨b0, cp, e0, _⟩ := Kd.R_form HO0.out (by have hl := of_decide_eq_true c; have hl' := of_decide_eq_true c'; omega)
    cases e0
    refine startd_ [12] (F := fun W => W.heap[g]? = some (.cells #[s0, .slice (some ⟨b0, 0, none⟩) l0.length c0, s2, s3] 35 (0, 0)) ∧ W.heap[g2]? = some (.cells #[.string (rd_T90 l0 x).f0, .int .i64 (rd_T90 l0 x).f1, .int .i64 (rd_T90 l0 x).f2] 90 (0, 0)) ∧ Kd.R k90 90 W base (fun _ => True) (.slice (some ⟨b0, 0, none⟩) l0.length c0) l0 ∧ Below w.heap.size w W) ⟨zKf, bpa3 BK2.out, Kd.R_below HO0.out zB, zB⟩ (fun W h => ⟨blk_drew h.1, blk_drew h.2.1, Kd.R_drew h.2.2.1, below_drew h.2.2.2⟩) (fun w_ hHeld => ?_)
    clear BK BK2 HB NB NB' hn hn' hcz hcz2 hy
    refine with_tab spec_l07Tally.tab5 (fun HT_ => ?_)
    repeat (first | refine us_ ?_ | refine ps_ ?_ | refine ts_ hHeld ?_ (hc := take_of HT_.out (by kernel_rfl)) (hv := by intro w' hs; have hc_ := bc4 hs.1; have hc2_ := bc3 hs.2.1; go_simp; with_reducible rfl))
    have hy := cb3 hHeld.2.2.2 hx
    refine stk_ (k := 2) (ix := x) (x' := ⟨_, _, _⟩) (seg := [.int .i64 _]) (c := [.string (rd_T90 l0 x).f0, .int .i64 (rd_T90 l0 x).f1, .int .i64 (rd_T90 l0 x).f2]) hHeld.2.2.1 ?hcc (of_decide_eq_true c') (of_decide_eq_true c) mk90 rfl ?hoff rfl rfl rfl ?h1 rfl (Nat.le_refl 3) (fun w2 hR hG => done_ (done_of HT_.out zK) ?_)
    case hcc =>
     intro j u hj
     simp only [add_plain, Nat.zero_add] at hy
     match j, hj with
     | 0, hj => cases hj; exact hy.1
     | 1, hj => cases hj; exact hy.2.1
     | 2, hj => cases hj; exact hy.2.2
     | j + 3, hj => simp at hj
    case hoff => simp; rfl
    case h1 => intro q hq; rw [List.mem_singleton.1 hq]; rfl
    (try go_wp2)
    (try simp only [Exit.inBlock, Exit.then])
    exact bodyPost_ret (v := .tuple #[]) (by simp [results, Tryz.results79, go_sem]) rfl ⟨rfl, _, blk_grown hHeld.1 hG (Kd.R_ne hHeld.2.2.1 hHeld.1 (by decide)), hR, (KeepBut.of_below hHeld.2.2.2 g _).trans (KeepBut.of_grown hG g) (.inl rfl), below_grow (hHeld.2.2.2.mono HBS.out) hG (Kd.R_base hHeld.2.2.1 b0 rfl) (Nat.le_trans HBS.out hHeld.2.2.2.size)⟩
   ·
    have H' := Aside0.mk H
    clear H
    go_wp2_with (((with_reducible refine gate_dst (N := 52) rfl ?_); refine rl_ k90 90 (N := 52) zB ?_; intro v1 w1 ho hb; have HO := Aside0.mk (Kd.R_mono ho (ok' := fun k => k ≠ g) (fun k hk => Kd.freshB zKf k hk.2)); replace BK := bb_ BK zKf hb; replace HB := Aside0.mk (below_step zB hb); clear ho hb))
    go_loopg [10, 11, 12] k1 (fun kq v10 v11 v12 w' => ∃ (xs : List (S90)) (pt : Bool) (x : Int), v11 = .bool pt ∧ v12 = .int .i64 x ∧ Aside0 (spec_l07Tally.l1 kq o rp vl l0 xs pt x = some r) ∧ Aside0 (kq ≤ k1) ∧ Aside0 (Kd.R k90 90 w' w.heap.size (fun _ => True) v10 xs) ∧ Aside0 (w'.heap[g]? = some (.cells #[s0, .slice A0 l0.length c0, s2, s3] 35 (0, 0))) ∧ Aside0 (Below w.heap.size w w'))
    case atStart => exact ⟨[], false, 0, zR, zR, H', ⟨Nat.le_refl _⟩, ⟨zO⟩, ⟨zKf⟩, ⟨zB⟩⟩
    case round =>
     clear H' BK HB HO HK1 hcz c
     obtain ⟨xs, pt, x1, rfl, rfl, HA, HK1, HO, BK, HB⟩ := hrel
     cases gk with
     | zero => exact absurd HA.out (by simp [spec_l07Tally.l1])
     | succ k1 =>
      have H := HA.out
      clear HA
      simp only [spec_l07Tally.l1] at H
      have hcz := bc4 BK.out
      replace H := ite_lt H
      rcases H with ⟨c, H⟩ | ⟨c, H⟩
      rotate_left
      ·
       repeat' (first
        | ((with_reducible refine none_o H); done)
        | ((with_reducible replace H := ite_t (by with_reducible assumption) H))
        | ((with_reducible replace H := ite_f (by with_reducible assumption) H))
        | ((with_reducible replace H := ite_n H); obtain ⟨LM, H⟩ := H)
        | ((with_reducible replace H := ite_lt H); rcases H with ⟨c1, H⟩ | ⟨c1, H⟩)
        | ((with_reducible replace H := ite_le H); rcases H with ⟨c1, H⟩ | ⟨c1, H⟩)
        | ((with_reducible replace H := ite_nb H); rcases H with ⟨c1, H⟩ | ⟨c1, H⟩)
        | ((with_reducible replace H := ite_b H); rcases H with ⟨c1, H⟩ | ⟨c1, H⟩ <;> (fail_if_success subst c1))
        | ((with_reducible replace H := ite_ei H); rcases H with ⟨c1, H⟩ | ⟨c1, H⟩)
        | ((with_reducible replace H := ite_es H); rcases H with ⟨c1, H⟩ | ⟨c1, H⟩)
        | ((with_reducible replace H := bind_s H); (try dsimp only at H))
        | ((with_reducible replace H := bind_o H); obtain ⟨t, A, H⟩ := H; (try dsimp only at H))
        | ((with_reducible replace H := ite_b H); rcases H with ⟨rfl, H⟩ | ⟨rfl, H⟩)
        )
       all_goals
        obtain rfl := Option.some.inj H
        obtain ⟨A2, c2, rfl⟩ := Kd.R_slice HO.out
        go_wp2_with ((at_builtin; refine apk_ (ok := fun k => True) mk90 Tryz.underlying31 info90 zO (fun _ _ => trivial) zB (below_size zB) (ap_n (by with_reducible assumption)) ?_; intro v1 w1 ho hb hg; replace BK := Aside0.mk (blk_grown zKf hg (Kd.R_ne HO.out BK.out (by decide))); have hcz := bc4 BK.out; replace HB := Aside0.mk hb; replace HO := Aside0.mk ho; obtain ⟨A2, c2, rfl⟩ := Kd.R_slice ho; clear ho hb hg))
        (try simp only [Exit.inBlock, Exit.then])
        exact bodyPost_end (v := .tuple #[]) (by simp [results, Tryz.results79, go_sem]) rfl ⟨rfl, _, bp4_1 BK.out, by first | exact R_setT (Kd.R_lower HO.out HBS.out) BK.out (by decide) rfl _ | (have hh := Kd.R_lower HO.out HBS.out; simp only [List.length_append, List.length_singleton] at hh; exact R_setT hh BK.out (by decide) rfl _), but_row (KeepBut.set_ (KeepBut.of_below HB.out g none) 1 _), (HB.out.mono HBS.out).setCell hgb _⟩
      replace H := ite_le H
      rcases H with ⟨c', H⟩ | ⟨c', H⟩
      rotate_left
      · exact none_o H
      obtain ⟨ad, e, hx⟩ := at_T90 HR0.out x1 (of_decide_eq_true c') (of_decide_eq_true c)
      cases e
      have p := eqt c
      have p' := eqt c'
      have hy := cb3 HB.out hx
      repeat' (first
       | ((with_reducible refine none_o H); done)
       | ((with_reducible replace H := ite_t (by with_reducible assumption) H))
       | ((with_reducible replace H := ite_f (by with_reducible assumption) H))
       | ((with_reducible replace H := ite_n H); obtain ⟨LM, H⟩ := H)
       | ((with_reducible replace H := ite_lt H); rcases H with ⟨c1, H⟩ | ⟨c1, H⟩)
       | ((with_reducible replace H := ite_le H); rcases H with ⟨c1, H⟩ | ⟨c1, H⟩)
       | ((with_reducible replace H := ite_nb H); rcases H with ⟨c1, H⟩ | ⟨c1, H⟩)
       | ((with_reducible replace H := ite_b H); rcases H with ⟨c1, H⟩ | ⟨c1, H⟩ <;> (fail_if_success subst c1))
       | ((with_reducible replace H := ite_ei H); rcases H with ⟨c1, H⟩ | ⟨c1, H⟩)
       | ((with_reducible replace H := ite_es H); rcases H with ⟨c1, H⟩ | ⟨c1, H⟩)
       | ((with_reducible replace H := bind_s H); (try dsimp only at H))
       | ((with_reducible replace H := bind_o H); obtain ⟨t, A, H⟩ := H; (try dsimp only at H))
       | ((with_reducible replace H := ite_b H); rcases H with ⟨rfl, H⟩ | ⟨rfl, H⟩)
       )
      all_goals
       have H' := Aside0.mk H
       clear H
       go_wp2_with (first
         | ((with_reducible refine gate_dst (N := 13) rfl ?_); refine bx_ (N := 13) ?_; intro g2 hg w1 hbox hb; have BK2 := Aside0.mk hbox; have GE2 := gw_ w zB hg; replace HO := Aside0.mk (Kd.R_below (Kd.R_elderB zO g2 (Nat.le_of_eq hg.symm)) hb); replace HB := Aside0.mk (below_step zB hb); have NB := nb_ BK zKf hg; have NB' := nc_ BK zKf hg; replace BK := bb_ BK zKf hb; clear hb hbox hg; have hn := NB.out; have hn' := NB'.out; have hcz2 := bc3 BK2.out; have hcz := bc4 BK.out)
         | (at_builtin; refine apk_ (ok := fun k => True ∧ k ≠ g2) mk90 Tryz.underlying31 info90 (by with_reducible first | exact farR3 HO.out | exact HO.out) (fun k hk => ⟨trivial, Kd.freshB (by with_reducible first | exact bpa3 BK2.out | exact BK2.out) k hk⟩) zB (below_size zB) (ap_n (by with_reducible assumption)) ?_; intro v1 w1 ho hb hg; replace BK := Aside0.mk (blk_grown zKf hg (Kd.R_ne HO.out BK.out (by decide))); replace BK2 := Aside0.mk (blk_grown (by with_reducible first | exact bpa3 BK2.out | exact BK2.out) hg (Kd.R_away HO.out (fun _ hk => hk.2))); have hcz2 := bc3 BK2.out; have hcz := bc4 BK.out; replace HB := Aside0.mk hb; replace HO := Aside0.mk ho; clear ho hb hg))
       go_roundg k1
       case measure => exact zM
       case rel => exact ⟨_, _, _, zR, zR, H', ⟨zM⟩, ⟨zO⟩, ⟨zKf⟩, ⟨zB⟩⟩
end Go.Proofs.YtbanogkoaplcdaaGreat.QDa
