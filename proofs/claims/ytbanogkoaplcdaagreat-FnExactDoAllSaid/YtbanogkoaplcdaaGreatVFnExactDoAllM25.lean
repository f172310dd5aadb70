/- Parts of the proof of FnExactDoAll, one behind the other. No condition. -/
import Derived.Test.YtbanogkoaplcdaaGreatVFnExactDoAllM16
import Derived.Test.YtbanogkoaplcdaaGreatVFnExactDoAllM18
import Derived.Test.YtbanogkoaplcdaaGreatVFnExactDoAllM21
import Derived.Test.YtbanogkoaplcdaaGreatVFnExactDoAllM23
import Derived.Test.YtbanogkoaplcdaaGreatVFnExactDoAllM24
namespace Go.Proofs.YtbanogkoaplcdaaGreat.QDa
open Go.RowKit Go.Proofs.YtbanogkoaplcdaaGreat.Reg10 Go.Proofs.YtbanogkoaplcdaaGreat.Reg9 Go.Proofs.YtbanogkoaplcdaaGreat.Lock Go.Proofs.YtbanogkoaplcdaaGreat.Auto Go.Proofs.YtbanogkoaplcdaaGreat.Short Go.Proofs.YtbanogkoaplcdaaGreatW.PrintWords Go.Proofs.YtbanogkoaplcdaaGreatW.PrintLast Go.Proofs.YtbanogkoaplcdaaGreatW.PrintMore
set_option linter.unusedVariables false
set_option linter.unusedSimpArgs false
def spec_l07Do.f (k : Nat) (l0 : List Int) (l1 : List S90) (l2 : List S93) (l3 : List S96) (a0 a1 a2 : Int) (kw : List Int) (a4 : Int) (a5 a6 : ByteArray) (a7 a8 a9 : Int) : Option (List Int × List S90 × List S93 × List S96) :=
  if 0 ≤ a0 then (if a0 < (l0.length : Int) then ((some (l0.set a0.toNat a1)).bind fun kn => (if a4 = 1 then ((spec_l07Tally.f k l1 a5 a0 a7).bind fun t => some (kn, t, l2, l3)) else (if a4 = 2 then ((spec_l07Live.f k l2 false a5 a6 0 a0 a1).bind fun t => some (kn, l1, t, l3)) else (if a4 = 3 then ((spec_l07Clear.f k l2 false a5 a6 kw).bind fun t => some (kn, l1, t, l3)) else (if a4 = 4 then ((spec_l07Clear.f k l2 true a5 a6 kw).bind fun t => ((spec_l07Live.f k t true a5 a6 a7 a0 a1).bind fun t2 => some (kn, l1, t2, l3))) else (if a4 = 5 then ((spec_l07Clear.f k l2 true a5 a6 kw).bind fun t => some (kn, l1, t, l3)) else (if a4 = 6 then ((spec_l07Cell.f k l3 a5 a0 a1 a2 a8 a9 a7 false).bind fun t => some (kn, l1, l2, t)) else (if a4 = 7 then ((spec_CellAt.f k kn l1 l2 l3 a8 a9).bind fun t => (if 0 ≤ t then (if t < (l3.length : Int) then some (kn, l1, l2, l3.set t.toNat (⟨(rd_T96 l3 t).f0, ⟨(rd_T96 l3 t).f1.f0, (rd_T96 l3 t).f1.f1⟩, (rd_T96 l3 t).f2, ⟨(rd_T96 l3 t).f3.f0, (rd_T96 l3 t).f3.f1⟩, (rd_T96 l3 t).f4, true⟩ : S96)) else none) else none)) else some (kn, l1, l2, l3))))))))) else none) else none
def spec_l07Do.T1 : Bool × List (List Nat × List Nat) := (true, [([], []), ([0], [0]), ([1], [1]), ([2], [2]), ([], []), ([4], [4]), ([5], [5]), ([], []), ([7], [7]), ([8], [8]), ([3, 6, 0, 1, 2, 3, 4, 5, 6, 7, 8, 9], [3, 6]), ([10, 9, 0, 1, 2, 3, 4, 5, 6, 7, 8, 9], [9, 10])])
def spec_l07Do.T6 : Bool × List (List Nat × List Nat) := (true, [([], []), ([], []), ([1], [1]), ([2], [2]), ([3], [3]), ([], []), ([5], [5]), ([], []), ([7], [7]), ([], []), ([9], [9]), ([6, 8, 10], [6, 8, 10]), ([4, 11], [4, 11]), ([0, 0, 1, 2, 3, 4, 5, 6, 7, 8, 9, 10, 11, 12], [0]), ([13, 0, 1, 2, 3, 4, 5, 6, 7, 8, 9, 10, 11, 12], [13]), ([14, 12, 12, 0, 1, 2, 3, 4, 5, 6, 7, 8, 9, 10, 11, 12], [12, 14])])
def spec_l07Do.T11 : Bool × List (List Nat × List Nat) := (true, [([], []), ([], []), ([1], [1]), ([2], [2]), ([3], [3]), ([], []), ([5], [5]), ([], []), ([7], [7]), ([], []), ([9], [9]), ([], []), ([11], [11]), ([6, 8, 10, 12], [6, 8, 10, 12]), ([4, 13], [4, 13]), ([0, 0, 1, 2, 3, 4, 5, 6, 7, 8, 9, 10, 11, 12, 13, 14], [0]), ([15, 0, 1, 2, 3, 4, 5, 6, 7, 8, 9, 10, 11, 12, 13, 14], [15]), ([16, 14, 14, 0, 1, 2, 3, 4, 5, 6, 7, 8, 9, 10, 11, 12, 13, 14], [14, 16])])
def spec_l07Do.T15 : Bool × List (List Nat × List Nat) := (true, [([], []), ([], []), ([1], [1]), ([2], [2]), ([3], [3]), ([], []), ([5], [5]), ([], []), ([7], [7]), ([], []), ([9], [9]), ([], []), ([11], [11]), ([], []), ([13], [13]), ([6, 8, 10, 12, 14], [6, 8, 10, 12, 14]), ([4, 15], [4, 15]), ([0, 0, 1, 2, 3, 4, 5, 6, 7, 8, 9, 10, 11, 12, 13, 14, 15, 16], [0]), ([17, 0, 1, 2, 3, 4, 5, 6, 7, 8, 9, 10, 11, 12, 13, 14, 15, 16], [17]), ([18, 16, 16, 0, 1, 2, 3, 4, 5, 6, 7, 8, 9, 10, 11, 12, 13, 14, 15, 16], [16, 18])])
def spec_l07Do.T17 : Bool × List (List Nat × List Nat) := (true, [([], []), ([0], [0]), ([1], [1]), ([2], [2]), ([], []), ([4], [4]), ([5], [5]), ([], []), ([7], [7]), ([6, 8], [6, 8]), ([3, 9, 0, 1, 2, 3, 4, 5, 6, 7, 8, 9], [3, 9]), ([10, 0, 1, 2, 3, 4, 5, 6, 7, 8, 9], [10]), ([11, 9, 0, 1, 2, 3, 4, 5, 6, 7, 8, 9], [11])])
theorem spec_l07Do.tab1 : rtab .any (opsOf Tryz.f51 1) = spec_l07Do.T1 := by kernel_rfl
theorem spec_l07Do.tab6 : rtab .any (opsOf Tryz.f51 6) = spec_l07Do.T6 := by kernel_rfl
theorem spec_l07Do.tab11 : rtab .any (opsOf Tryz.f51 11) = spec_l07Do.T11 := by kernel_rfl
theorem spec_l07Do.tab15 : rtab .any (opsOf Tryz.f51 15) = spec_l07Do.T15 := by kernel_rfl
theorem spec_l07Do.tab17 : rtab .any (opsOf Tryz.f51 17) = spec_l07Do.T17 := by kernel_rfl
@[reducible] def StA (w we : World) (g ga : Nat) (ca : Array Value) (s0 s1 s2 s3 : Value) (l0 : List Int) (l1 : List S90) (l2 : List S93) (l3 : List S96) (W : World) : Prop := St w we W g s0 s1 s2 s3 l0 l1 l2 l3 ∧ W.heap[ga]? = some (.cells ca 61 (0, 0))
set_option maxHeartbeats 8000000 in
set_option maxRecDepth 100000 in
theorem spec_l07Do.calls (k g : Nat) (A0 A1 A2 A3 : Option Addr) (c0 c1 c2 c3 : Nat) (l0 : List Int) (l1 : List S90) (l2 : List S93) (l3 : List S96) (a0 a1 a2 : Int) (B : Option Addr) (cb : Nat) (kw : List Int) (a4 : Int) (a5 a6 : ByteArray) (a7 a8 a9 : Int) (r1 : List Int) (r2 : List S90) (r3 : List S93) (r4 : List S96) (w we : World)
  (hs : St w we we g (.slice A0 l0.length c0) (.slice A1 l1.length c1) (.slice A2 l2.length c2) (.slice A3 l3.length c3) l0 l1 l2 l3) (hk : Kd.C (Kd.int .i64) w B kw.length kw) (hck : kw.length ≤ cb) (h : spec_l07Do.f k l0 l1 l2 l3 a0 a1 a2 kw a4 a5 a6 a7 a8 a9 = some (r1, r2, r3, r4)) :
  Calls Tryz.prog 51 #[.pointer (some ⟨g, 0, none⟩), .agg #[.int .i64 a0, .int .i64 a1, .int .i64 a2, .slice B kw.length cb, .int .i64 a4, .string a5, .string a6, .int .i64 a7, .int .i64 a8, .int .i64 a9]] we fun e w' => e = .returned (.tuple #[]) ∧ ∃ s0 s1 s2 s3 : Value, St w we w' g s0 s1 s2 s3 r1 r2 r3 r4 := by
 have hu35 := Tryz.underlying35
 have hu61 := Tryz.underlying61
 have hu59 := Tryz.underlying59
 have hu96 := Tryz.underlying96
 have hu93 := Tryz.underlying93
 have HRK := Aside0.mk hk
 have HCK := Aside0.mk hck
 have ST := Aside0.mk hs
 have H := h
 clear h hk hck hs
 unfold spec_l07Do.f at H
 replace H := ite_le H
 rcases H with ⟨c', H⟩ | ⟨c', H⟩
 rotate_left
 · exact none_o H
 replace H := ite_lt H
 rcases H with ⟨c, H⟩ | ⟨c, H⟩
 rotate_left
 · exact none_o H
 replace H := bind_s H
 have HC := Aside0.mk H
 clear H
 obtain ⟨b0, cp, e0, _⟩ := Kd.R_form ST.out.r0 (by have hl := of_decide_eq_true c; have hl' := of_decide_eq_true c'; omega)
 cases e0
 have p := eqt c
 have p' := eqt c'
 go_enter Tryz.func51, Tryz.ntmps51
 go_wp2_with (((with_reducible refine gate_dst (N := 3) rfl ?_); refine bx_ (N := 3) ?_; intro ga hga w1 hbox hb; have BKA := Aside0.mk hbox; have NE := Aside0.mk (Nat.ne_of_gt (Nat.lt_of_lt_of_eq (blk_lt ST.out.blk) hga.symm)); replace ST := Aside0.mk (ST.out.below hb); clear hb hbox hga))
 refine startd_ [11] (F := StA w we g ga _ _ _ _ _ _ _ _ _) ⟨ST.out, BKA.out⟩ (fun W h => ⟨h.1.drew, blk_drew h.2⟩) (fun w_ hHeld => ?_)
 refine with_tab spec_l07Do.tab1 (fun HT_ => ?_)
 clear ST BKA
 repeat (first | refine us_ ?_ | refine ps_ ?_ | refine ts_ hHeld ?_ (hc := take_of HT_.out (by kernel_rfl)) (hv := by intro w' hs; have hc_ := bc4 hs.1.blk; have hc2_ := bc10 hs.2; go_simp; with_reducible rfl))
 obtain ⟨ad, e1, hx⟩ := Kd.at_int (Kd.R_reads' hHeld.1.r0).2.2 a0 (of_decide_eq_true c') (of_decide_eq_true c)
 cases e1
 simp only [add_plain, Nat.zero_add] at hx
 refine stk_ (d := Kd.int .i64) (k := 0) (ix := a0) (x' := a1) (seg := [.int .i64 a1]) (c := [.int .i64 (rd l0 a0)]) hHeld.1.r0 ?hcc (of_decide_eq_true c') (of_decide_eq_true c) rfl rfl ?hoff rfl rfl rfl ?h1 rfl (Nat.le_refl 1) (fun w2 hR hG => done_ (done_of HT_.out zK) ?_)
 case hcc =>
  intro j u hj
  match j, hj with
  | 0, hj => cases hj; exact (congrArg w_.cell? (congrArg (fun n => (⟨b0, n, none⟩ : Addr)) (Nat.mul_one _))).trans hx
  | j + 1, hj => simp at hj
 case hoff => exact (Nat.mul_one _).symm
 case h1 => intro q hq; rw [List.mem_singleton.1 hq]; rfl
 have ST := Aside0.mk (hHeld.1.sto0 rfl hG hR)
 have BKA := Aside0.mk (blk_grown hHeld.2 hG (Kd.R_ne hHeld.1.r0 hHeld.2 (by decide)))
 have H := HC.out
 clear HC hHeld hG hR hx HT_
 (try dsimp only at H)
 obtain ⟨kn, hkn⟩ : ∃ kn, kn = l0.set a0.toNat a1 := ⟨_, rfl⟩
 have hl : l0.length = kn.length := by rw [hkn, List.length_set]
 rw [← hkn] at H ST
 rw [hl] at ST
 clear hkn
 have hcz := bc4 ST.out.blk; have hca := bc10 BKA.out
 replace H := ite_ei H
 rcases H with ⟨d1, H⟩ | ⟨d1, H⟩
 ·
  replace H := bind_o H
  obtain ⟨t, A, H⟩ := H
  (try dsimp only at H)
  cases H
  go_wp2_with ((go_at_call 79); refine (spec_l07Tally.calls k g w.heap.size _ _ _ _ _ l1 a5 a0 a7 _ _ ST.out.blk ST.out.r1 ST.out.hb.size ST.out.hg A.out).mono ?_; rintro e w' ⟨rfl, s1', hb1, hr1, hk1, hB1⟩; replace ST := Aside0.mk (ST.out.but1 hk1 hB1 hb1 hr1); clear hcz hca hb1 hr1 hk1 hB1)
  (try simp only [Exit.inBlock, Exit.then])
  exact bodyPost_end (v := .tuple #[]) (by simp [results, Tryz.results51, go_sem]) rfl ⟨rfl, _, _, _, _, ST.out⟩
 replace H := ite_ei H
 rcases H with ⟨d2, H⟩ | ⟨d2, H⟩
 ·
  replace H := bind_o H
  obtain ⟨t, A, H⟩ := H
  (try dsimp only at H)
  cases H
  (try go_wp2)
  refine startd_ [15] (F := StA w we g ga _ _ _ _ _ _ _ _ _) ⟨ST.out, BKA.out⟩ (fun W h => ⟨h.1.drew, blk_drew h.2⟩) (fun w_ hHeld => ?_)
  refine with_tab spec_l07Do.tab6 (fun HT_ => ?_)
  clear ST BKA hcz hca
  repeat (first | refine us_ ?_ | refine ps_ ?_ | refine ts_ hHeld ?_ (hc := take_of HT_.out (by kernel_rfl)) (hv := by intro w' hs; have hc_ := bc4 hs.1.blk; have hc2_ := bc10 hs.2; go_simp; with_reducible rfl))
  refine oq_ Tryz.func80 (spec_l07Live.calls k _ _ l2 false a5 a6 0 a0 a1 _ _ (Kd.R_reads' hHeld.1.r2).2.2 (Kd.R_reads' hHeld.1.r2).2.1 A.out) ?_
  rintro e w' ⟨v0, rfl, hr, hb⟩
  refine ⟨_, rfl, ⟨hHeld.1.below hb, blk_below hHeld.2 hb⟩, fun hH => ?_⟩
  obtain ⟨A9, c9, rfl⟩ := Kd.R_slice hr
  replace hr := Kd.R_lower hr hHeld.1.hb.size
  clear hHeld hb
  simp only [Act.put, List.setIfInBounds_toArray, List.set_cons_zero, List.set_cons_succ]
  repeat (first | refine us_ ?_ | refine ps_ ?_)
  refine ss_ (w1 := w'.setCell ⟨g, 2, none⟩ (.slice A9 r3.length c9)) ?hr0 ?hd0
  case hr0 => have hc_ := bc4 hH.1.blk; go_simp
  refine done_ (done_of HT_.out zK) ?_
  (try go_wp2)
  (try simp only [Exit.inBlock, Exit.then])
  exact bodyPost_end (v := .tuple #[]) (by simp [results, Tryz.results51, go_sem]) rfl ⟨rfl, _, _, _, _, hH.1.set2 hr⟩
 replace H := ite_ei H
 rcases H with ⟨d3, H⟩ | ⟨d3, H⟩
 ·
  replace H := bind_o H
  obtain ⟨t, A, H⟩ := H
  (try dsimp only at H)
  cases H
  go_wp2_with ((go_at_call 81); refine (spec_l07Clear.calls k g w.heap.size _ _ _ _ _ l2 false a5 a6 _ _ kw _ _ ST.out.blk (Kd.R_reads' ST.out.r2).2.2 (Kd.R_reads' ST.out.r2).2.1 (Kd.C_below HRK.out ST.out.hb) HCK.out ST.out.hb.size ST.out.hg A.out).mono ?_; rintro e w' ⟨rfl, s2', hb1, hr1, hk1, hB1⟩; obtain ⟨A2', c2', rfl⟩ := Kd.R_slice hr1; replace ST := Aside0.mk (ST.out.but2 hk1 hB1 hb1 hr1); replace BKA := Aside0.mk (hk1.blk BKA.out NE.out (by simp)); have hcz := bc4 ST.out.blk; have hca := bc10 BKA.out; clear hb1 hr1 hk1 hB1)
  (try simp only [Exit.inBlock, Exit.then])
  exact bodyPost_end (v := .tuple #[]) (by simp [results, Tryz.results51, go_sem]) rfl ⟨rfl, _, _, _, _, ST.out⟩
 replace H := ite_ei H
 rcases H with ⟨d4, H⟩ | ⟨d4, H⟩
 ·
  replace H := bind_o H
  obtain ⟨t, A, H⟩ := H
  (try dsimp only at H)
  replace H := bind_o H
  obtain ⟨t2, A2_, H⟩ := H
  (try dsimp only at H)
  cases H
  go_wp2_with ((go_at_call 81); refine (spec_l07Clear.calls k g w.heap.size _ _ _ _ _ l2 true a5 a6 _ _ kw _ _ ST.out.blk (Kd.R_reads' ST.out.r2).2.2 (Kd.R_reads' ST.out.r2).2.1 (Kd.C_below HRK.out ST.out.hb) HCK.out ST.out.hb.size ST.out.hg A.out).mono ?_; rintro e w' ⟨rfl, s2', hb1, hr1, hk1, hB1⟩; obtain ⟨A2', c2', rfl⟩ := Kd.R_slice hr1; replace ST := Aside0.mk (ST.out.but2 hk1 hB1 hb1 hr1); replace BKA := Aside0.mk (hk1.blk BKA.out NE.out (by simp)); have hcz := bc4 ST.out.blk; have hca := bc10 BKA.out; clear hb1 hr1 hk1 hB1)
  (try go_wp2)
  refine startd_ [17] (F := StA w we g ga _ _ _ _ _ _ _ _ _) ⟨ST.out, BKA.out⟩ (fun W h => ⟨h.1.drew, blk_drew h.2⟩) (fun w_ hHeld => ?_)
  refine with_tab spec_l07Do.tab11 (fun HT_ => ?_)
  clear ST BKA hcz hca
  repeat (first | refine us_ ?_ | refine ps_ ?_ | refine ts_ hHeld ?_ (hc := take_of HT_.out (by kernel_rfl)) (hv := by intro w' hs; have hc_ := bc4 hs.1.blk; have hc2_ := bc10 hs.2; go_simp; with_reducible rfl))
  refine oq_ Tryz.func80 (spec_l07Live.calls k _ _ _ true a5 a6 a7 a0 a1 _ _ (Kd.R_reads' hHeld.1.r2).2.2 (Kd.R_reads' hHeld.1.r2).2.1 A2_.out) ?_
  rintro e w' ⟨v0, rfl, hr, hb⟩
  refine ⟨_, rfl, ⟨hHeld.1.below hb, blk_below hHeld.2 hb⟩, fun hH => ?_⟩
  obtain ⟨A9, c9, rfl⟩ := Kd.R_slice hr
  replace hr := Kd.R_lower hr hHeld.1.hb.size
  clear hHeld hb
  simp only [Act.put, List.setIfInBounds_toArray, List.set_cons_zero, List.set_cons_succ]
  repeat (first | refine us_ ?_ | refine ps_ ?_)
  refine ss_ (w1 := w'.setCell ⟨g, 2, none⟩ (.slice A9 r3.length c9)) ?hr1 ?hd1
  case hr1 => have hc_ := bc4 hH.1.blk; go_simp
  refine done_ (done_of HT_.out zK) ?_
  (try go_wp2)
  (try simp only [Exit.inBlock, Exit.then])
  exact bodyPost_end (v := .tuple #[]) (by simp [results, Tryz.results51, go_sem]) rfl ⟨rfl, _, _, _, _, hH.1.set2 hr⟩
 replace H := ite_ei H
 rcases H with ⟨d5, H⟩ | ⟨d5, H⟩
 ·
  replace H := bind_o H
  obtain ⟨t, A, H⟩ := H
  (try dsimp only at H)
  cases H
  go_wp2_with ((go_at_call 81); refine (spec_l07Clear.calls k g w.heap.size _ _ _ _ _ l2 true a5 a6 _ _ kw _ _ ST.out.blk (Kd.R_reads' ST.out.r2).2.2 (Kd.R_reads' ST.out.r2).2.1 (Kd.C_below HRK.out ST.out.hb) HCK.out ST.out.hb.size ST.out.hg A.out).mono ?_; rintro e w' ⟨rfl, s2', hb1, hr1, hk1, hB1⟩; obtain ⟨A2', c2', rfl⟩ := Kd.R_slice hr1; replace ST := Aside0.mk (ST.out.but2 hk1 hB1 hb1 hr1); replace BKA := Aside0.mk (hk1.blk BKA.out NE.out (by simp)); have hcz := bc4 ST.out.blk; have hca := bc10 BKA.out; clear hb1 hr1 hk1 hB1)
  (try simp only [Exit.inBlock, Exit.then])
  exact bodyPost_end (v := .tuple #[]) (by simp [results, Tryz.results51, go_sem]) rfl ⟨rfl, _, _, _, _, ST.out⟩
 replace H := ite_ei H
 rcases H with ⟨d6, H⟩ | ⟨d6, H⟩
 ·
  replace H := bind_o H
  obtain ⟨t, A, H⟩ := H
  (try dsimp only at H)
  cases H
  (try go_wp2)
  refine startd_ [19] (F := StA w we g ga _ _ _ _ _ _ _ _ _) ⟨ST.out, BKA.out⟩ (fun W h => ⟨h.1.drew, blk_drew h.2⟩) (fun w_ hHeld => ?_)
  refine with_tab spec_l07Do.tab15 (fun HT_ => ?_)
  clear ST BKA hcz hca
  repeat (first | refine us_ ?_ | refine ps_ ?_ | refine ts_ hHeld ?_ (hc := take_of HT_.out (by kernel_rfl)) (hv := by intro w' hs; have hc_ := bc4 hs.1.blk; have hc2_ := bc10 hs.2; go_simp; with_reducible rfl))
  refine oq_ Tryz.func82 (spec_l07Cell.calls k _ _ l3 a5 a0 a1 a2 a8 a9 a7 false _ _ (Kd.R_reads' hHeld.1.r3).2.2 (Kd.R_reads' hHeld.1.r3).2.1 A.out) ?_
  rintro e w' ⟨v0, rfl, hr, hb⟩
  refine ⟨_, rfl, ⟨hHeld.1.below hb, blk_below hHeld.2 hb⟩, fun hH => ?_⟩
  obtain ⟨A9, c9, rfl⟩ := Kd.R_slice hr
  replace hr := Kd.R_lower hr hHeld.1.hb.size
  clear hHeld hb
  simp only [Act.put, List.setIfInBounds_toArray, List.set_cons_zero, List.set_cons_succ]
  repeat (first | refine us_ ?_ | refine ps_ ?_)
  refine ss_ (w1 := w'.setCell ⟨g, 3, none⟩ (.slice A9 r4.length c9)) ?hr2 ?hd2
  case hr2 => have hc_ := bc4 hH.1.blk; go_simp
  refine done_ (done_of HT_.out zK) ?_
  (try go_wp2)
  (try simp only [Exit.inBlock, Exit.then])
  exact bodyPost_end (v := .tuple #[]) (by simp [results, Tryz.results51, go_sem]) rfl ⟨rfl, _, _, _, _, hH.1.set3 hr⟩
 replace H := ite_ei H
 rcases H with ⟨d7, H⟩ | ⟨d7, H⟩
 ·
  replace H := bind_o H
  obtain ⟨t, A, H⟩ := H
  (try dsimp only at H)
  replace H := ite_le H
  rcases H with ⟨q', H⟩ | ⟨q', H⟩
  rotate_left
  · exact none_o H
  replace H := ite_lt H
  rcases H with ⟨q, H⟩ | ⟨q, H⟩
  rotate_left
  · exact none_o H
  cases H
  have P1 := eqt q
  have P2 := eqt q'
  obtain ⟨b3, cp3, e3, _⟩ := Kd.R_form ST.out.r3 (by have hl := of_decide_eq_true q; have hl' := of_decide_eq_true q'; omega)
  cases e3
  (try go_wp2)
  refine startd_ [12] (F := StA w we g ga _ _ _ _ _ _ _ _ _) ⟨ST.out, BKA.out⟩ (fun W h => ⟨h.1.drew, blk_drew h.2⟩) (fun w_ hHeld => ?_)
  refine with_tab spec_l07Do.tab17 (fun HT_ => ?_)
  clear ST BKA hcz hca
  repeat (first | refine us_ ?_ | refine ps_ ?_ | refine ts_ hHeld ?_ (hc := take_of HT_.out (by kernel_rfl)) (hv := by intro w' hs; have hc_ := bc4 hs.1.blk; have hc2_ := bc10 hs.2; go_simp; with_reducible rfl))
  refine oq_ Tryz.func75 (spec_CellAt.calls k _ _ _ _ _ l1 _ _ l2 _ _ l3 a8 a9 t _ (Kd.R_reads' hHeld.1.r0).2.2 (Kd.R_reads' hHeld.1.r0).2.1 (Kd.R_reads' hHeld.1.r1).2.2 (Kd.R_reads' hHeld.1.r1).2.1 (Kd.R_reads' hHeld.1.r2).2.2 (Kd.R_reads' hHeld.1.r2).2.1 (Kd.R_reads' hHeld.1.r3).2.2 (Kd.R_reads' hHeld.1.r3).2.1 A.out) ?_
  rintro e w' ⟨rfl, hb⟩
  refine ⟨_, rfl, ⟨hHeld.1.below hb, blk_below hHeld.2 hb⟩, fun hH => ?_⟩
  clear hHeld hb
  simp only [Act.put, List.setIfInBounds_toArray, List.set_cons_zero, List.set_cons_succ]
  repeat (first | refine us_ ?_ | refine ps_ ?_)
  obtain ⟨ad, e1, hx⟩ := at_T96 (Kd.R_reads' hH.1.r3).2.2 t (of_decide_eq_true q') (of_decide_eq_true q)
  cases e1
  simp only [add_plain, Nat.zero_add] at hx
  refine stk_ (d := k96) (k := 7) (ix := t) (x' := ⟨_, ⟨_, _⟩, _, ⟨_, _⟩, _, _⟩) (seg := [.bool true]) (c := [.string (rd_T96 l3 t).f0, .int .i64 (rd_T96 l3 t).f1.f0, .int .i64 (rd_T96 l3 t).f1.f1, .int .i64 (rd_T96 l3 t).f2, .int .i64 (rd_T96 l3 t).f3.f0, .int .i64 (rd_T96 l3 t).f3.f1, .int .i64 (rd_T96 l3 t).f4, .bool (rd_T96 l3 t).f5]) hH.1.r3 ?hcc (of_decide_eq_true q') (of_decide_eq_true q) mk96 rfl ?hoff rfl rfl rfl ?h1 rfl (Nat.le_refl 8) (fun w2 hR hG => done_ (done_of HT_.out zK) ?_)
  case hcc =>
   intro j u hj
   match j, hj with
   | 0, hj => cases hj; exact hx.1
   | 1, hj => cases hj; exact hx.2.1
   | 2, hj => cases hj; exact hx.2.2.1
   | 3, hj => cases hj; exact hx.2.2.2.1
   | 4, hj => cases hj; exact hx.2.2.2.2.1
   | 5, hj => cases hj; exact hx.2.2.2.2.2.1
   | 6, hj => cases hj; exact hx.2.2.2.2.2.2.1
   | 7, hj => cases hj; exact hx.2.2.2.2.2.2.2
   | j + 8, hj => simp at hj
  case hoff => simp; rfl
  case h1 => intro q hq; rw [List.mem_singleton.1 hq]; rfl
  have ST := Aside0.mk (hH.1.sto3 rfl hG hR)
  (try go_wp2)
  (try simp only [Exit.inBlock, Exit.then])
  exact bodyPost_end (v := .tuple #[]) (by simp [results, Tryz.results51, go_sem]) rfl ⟨rfl, _, _, _, _, ST.out⟩
 cases H
 go_wp2
 (try simp only [Exit.inBlock, Exit.then])
 exact bodyPost_end (v := .tuple #[]) (by simp [results, Tryz.results51, go_sem]) rfl ⟨rfl, _, _, _, _, ST.out⟩
end Go.Proofs.YtbanogkoaplcdaaGreat.QDa
