/- Parts of the proof of FnExactDoAll, one behind the other. No condition. -/
import Derived.Test.YtbanogkoaplcdaaGreatVFnExactDoAllM16
import Derived.Test.YtbanogkoaplcdaaGreatVFnExactDoAllM33
import Derived.Test.YtbanogkoaplcdaaGreatVFnExactDoAllM41
import Derived.Test.YtbanogkoaplcdaaGreatVFnExactDoAllM42
import Derived.Test.YtbanogkoaplcdaaGreatVFnExactDoAllM43
import Derived.Test.YtbanogkoaplcdaaGreatVFnExactDoAllM44
import Derived.Test.YtbanogkoaplcdaaGreatVFnExactDoAllM45
import Derived.Test.YtbanogkoaplcdaaGreatVFnExactDoAllM46
import Derived.Test.YtbanogkoaplcdaaGreatVFnExactDoAllM8
namespace Go.Proofs.YtbanogkoaplcdaaGreat.QDa
open Go.RowKit Go.Proofs.YtbanogkoaplcdaaGreat.Reg10 Go.Proofs.YtbanogkoaplcdaaGreat.Reg9 Go.Proofs.YtbanogkoaplcdaaGreat.Lock Go.Proofs.YtbanogkoaplcdaaGreat.Auto Go.Proofs.YtbanogkoaplcdaaGreat.Short Go.Proofs.YtbanogkoaplcdaaGreatW.PrintWords Go.Proofs.YtbanogkoaplcdaaGreatW.PrintLast Go.Proofs.YtbanogkoaplcdaaGreatW.PrintMore
set_option linter.unusedVariables false
set_option linter.unusedSimpArgs false
attribute [local go_sem high] eqA59
def impl_DoAct.e (o : List Int × List S90 × List S93 × List S96) (p0 : List Int) (p1 : List S90) (p2 : List S93) (p3 : List S96) : Option (List Int × List S90 × List S93 × List S96 × Int) :=
  (impl_tooMany.f p0 p1 p2 p3).bind fun t => (if t = true then some (o.1, o.2.1, o.2.2.1, o.2.2.2, 4) else some (p0, p1, p2, p3, 0))
def impl_DoAct.g (k : Nat) (o : List Int × List S90 × List S93 × List S96) (l1 : List S90) (l2 : List S93) (l3 : List S96) (a0 a1 a2 : Int) (kw : List Int) (a4 : Int) (a5 a6 : ByteArray) (a7 a8 a9 i : Int) : Option (List Int × List S90 × List S93 × List S96 × Int) :=
  if 0 ≤ a0 then (if a0 < (o.1.length : Int) then ((some (o.1.set a0.toNat a1)).bind fun kn => (if a4 = 1 then ((impl_withTally.f k l1 a5 a0 a7).bind fun t => impl_DoAct.e o kn t o.2.2.1 o.2.2.2) else (if a4 = 2 then ((impl_withLive.f k l2 false a5 a6 0 a0 a1).bind fun t => impl_DoAct.e o kn o.2.1 t o.2.2.2) else (if a4 = 3 then ((impl_withoutKnown.f k l2 false a0 a1 a2 kw a4 a5 a6 a7 a8 a9).bind fun t => impl_DoAct.e o kn o.2.1 t o.2.2.2) else (if a4 = 4 then ((impl_withoutKnown.f k l2 true a0 a1 a2 kw a4 a5 a6 a7 a8 a9).bind fun t => ((impl_withLive.f k t true a5 a6 a7 a0 a1).bind fun t2 => impl_DoAct.e o kn o.2.1 t2 o.2.2.2)) else (if a4 = 5 then ((impl_withoutKnown.f k l2 true a0 a1 a2 kw a4 a5 a6 a7 a8 a9).bind fun t => impl_DoAct.e o kn o.2.1 t o.2.2.2) else (if a4 = 6 then ((impl_withCell.f k l3 a5 a0 a1 a2 a8 a9 a7 false).bind fun t => impl_DoAct.e o kn o.2.1 o.2.2.1 t) else (if a4 = 7 then (if 0 ≤ i then (if i < (o.2.2.2.length : Int) then impl_DoAct.e o kn o.2.1 o.2.2.1 (o.2.2.2.set i.toNat (⟨(rd_T96 o.2.2.2 i).f0, ⟨(rd_T96 o.2.2.2 i).f1.f0, (rd_T96 o.2.2.2 i).f1.f1⟩, (rd_T96 o.2.2.2 i).f2, ⟨(rd_T96 o.2.2.2 i).f3.f0, (rd_T96 o.2.2.2 i).f3.f1⟩, (rd_T96 o.2.2.2 i).f4, true⟩ : S96)) else none) else none) else impl_DoAct.e o kn o.2.1 o.2.2.1 o.2.2.2)))))))) else none) else none
def impl_DoAct.f (k : Nat) (l0 : List Int) (l1 : List S90) (l2 : List S93) (l3 : List S96) (a0 a1 a2 : Int) (kw : List Int) (a4 : Int) (a5 a6 : ByteArray) (a7 a8 a9 : Int) : Option (List Int × List S90 × List S93 × List S96 × Int) :=
  (impl_copyState.f l0 l1 l2 l3).bind fun o => ((impl_StateOk.f k l0 l1 l2 l3).bind fun t => (if t = true then ((impl_ActOk.f k a0 a1 a2 kw a4 a5 a6 a7 a8 a9).bind fun t => (if t = true then ((impl_Knows.f k l0 a0 a1).bind fun t => (if t = true then some (o.1, o.2.1, o.2.2.1, o.2.2.2, 1) else ((impl_KnowIn.f k kw l0).bind fun t => (if t = true then ((impl_CellAt.f l0 l1 l2 l3 a8 a9).bind fun i => (if (a8 == 0 && (a9 == 0)) = true then impl_DoAct.g k o l1 l2 l3 a0 a1 a2 kw a4 a5 a6 a7 a8 a9 i else (if i < 0 then some (o.1, o.2.1, o.2.2.1, o.2.2.2, 3) else (if 0 ≤ i then (if i < (l3.length : Int) then (if ((rd_T96 l3 i).f0).toList = a5.toList then (if a4 = 6 then (if a2 ≤ (rd_T96 l3 i).f2 then some (o.1, o.2.1, o.2.2.1, o.2.2.2, 3) else impl_DoAct.g k o l1 l2 l3 a0 a1 a2 kw a4 a5 a6 a7 a8 a9 i) else impl_DoAct.g k o l1 l2 l3 a0 a1 a2 kw a4 a5 a6 a7 a8 a9 i) else some (o.1, o.2.1, o.2.2.1, o.2.2.2, 3)) else none) else none)))) else some (o.1, o.2.1, o.2.2.1, o.2.2.2, 2))))) else some (o.1, o.2.1, o.2.2.1, o.2.2.2, 3))) else some (o.1, o.2.1, o.2.2.1, o.2.2.2, 3)))
def impl_DoAct.T9 : Bool × List (List Nat × List Nat) := (true, [([], []), ([0], [0]), ([], []), ([1, 2], [1, 2]), ([3], [3]), ([4], [4]), ([5, 4], [4, 5]), ([6, 4, 4], [4, 6]), ([7], [7]), ([8, 7], [7, 8]), ([7], [7]), ([9, 10, 7], [7, 9, 10]), ([11, 7], [7, 11]), ([12, 7], [7, 12]), ([7], [7]), ([14, 7], [7, 14]), ([13, 15, 7], [7, 13, 15]), ([7, 16, 4], [4, 7, 16]), ([17, 7, 4], [4, 17]), ([18], [18]), ([19, 18], [18, 19]), ([20, 18], [18, 20]), ([21, 18, 18], [18, 21]), ([22], [22]), ([23, 22], [22, 23]), ([22], [22]), ([25, 22], [22, 25]), ([22], [22]), ([26, 27, 22], [22, 26, 27]), ([28, 22], [22, 28]), ([29, 22], [22, 29]), ([24, 30, 22], [22, 24, 30]), ([22, 31, 18], [18, 22, 31]), ([18, 32, 4], [4, 18, 32]), ([4, 33], [4, 33])])
theorem impl_DoAct.tab9 : rtab .any (opsOf Tryz.f31 9) = impl_DoAct.T9 := by kernel_rfl
set_option maxHeartbeats 8000000 in
set_option maxRecDepth 100000 in
theorem impl_DoAct.calls (k : Nat) (A0 : Option Addr) (m0 : Nat) (l0 : List Int) (A1 : Option Addr) (m1 : Nat) (l1 : List S90) (A2 : Option Addr) (m2 : Nat) (l2 : List S93) (A3 : Option Addr) (m3 : Nat) (l3 : List S96) (a0 a1 a2 : Int) (B : Option Addr) (cb : Nat) (kw : List Int) (a4 : Int) (a5 a6 : ByteArray) (a7 a8 a9 : Int) (r1 : List Int) (r2 : List S90) (r3 : List S93) (r4 : List S96) (r5 : Int) (w : World)
  (hr0 : Kd.C (Kd.int .i64) w A0 l0.length l0) (hc0 : l0.length ≤ m0) (hr1 : Kd.C k90 w A1 l1.length l1) (hc1 : l1.length ≤ m1) (hr2 : Kd.C k93 w A2 l2.length l2) (hc2 : l2.length ≤ m2) (hr3 : Kd.C k96 w A3 l3.length l3) (hc3 : l3.length ≤ m3) (hk : Kd.C (Kd.int .i64) w B kw.length kw) (hck : kw.length ≤ cb) (h : impl_DoAct.f k l0 l1 l2 l3 a0 a1 a2 kw a4 a5 a6 a7 a8 a9 = some (r1, r2, r3, r4, r5)) :
  Calls Tryz.prog 31 #[.agg #[.slice A0 l0.length m0, .slice A1 l1.length m1, .slice A2 l2.length m2, .slice A3 l3.length m3], .agg #[.int .i64 a0, .int .i64 a1, .int .i64 a2, .slice B kw.length cb, .int .i64 a4, .string a5, .string a6, .int .i64 a7, .int .i64 a8, .int .i64 a9]] w fun e w' => ∃ v0 v1 v2 v3 : Value, e = .returned (.tuple #[.agg #[v0, v1, v2, v3], .int .i64 r5]) ∧ Kd.R (Kd.int .i64) 3 w' w.heap.size (fun _ => True) v0 r1 ∧ Kd.R k90 90 w' w.heap.size (fun _ => True) v1 r2 ∧ Kd.R k93 93 w' w.heap.size (fun _ => True) v2 r3 ∧ Kd.R k96 96 w' w.heap.size (fun _ => True) v3 r4 ∧ Below w.heap.size w w' := by
 have hu35 := Tryz.underlying35
 have hu61 := Tryz.underlying61
 have hu59 := Tryz.underlying59
 have hu93 := Tryz.underlying93
 have hu96 := Tryz.underlying96
 have HR0 := Aside0.mk hr0
 have HC0 := Aside0.mk hc0
 have HR1 := Aside0.mk hr1
 have HC1 := Aside0.mk hc1
 have HR2 := Aside0.mk hr2
 have HC2 := Aside0.mk hc2
 have HR3 := Aside0.mk hr3
 have HC3 := Aside0.mk hc3
 have HRK := Aside0.mk hk
 have HCK := Aside0.mk hck
 have HB := Aside0.mk (Below.refl w.heap.size w)
 have H := h
 clear h hr0 hc0 hr1 hc1 hr2 hc2 hr3 hc3 hk hck
 unfold impl_DoAct.f at H
 replace H := bind_o H
 obtain ⟨o, AC, H⟩ := H
 (try dsimp only at H)
 have TK := Aside0.mk trivial
 have fin : ∀ (a : Act) (W : World) (g4 g6 N : Nat) (z0 z1 z2 z3 s0 s1 s2 s3 : Value), True := fun _ _ _ _ _ _ _ _ _ _ _ _ _ => trivial
 clear fin
 iterate 4
  replace H := bind_o H
  obtain ⟨t, A, H⟩ := H
  (try dsimp only at H)
  replace H := ite_b H
  rcases H with ⟨rfl, H⟩ | ⟨rfl, H⟩
  any_goals
   (obtain ⟨rfl, rfl, rfl, rfl, rfl⟩ : _ ∧ _ ∧ _ ∧ _ ∧ _ := by simpa only [Option.some.injEq, Prod.mk.injEq] using H)
   go_enter Tryz.func31, Tryz.ntmps31
   go_wp2_with (first
    | ((with_reducible refine gate_dst (N := 2) rfl ?_); refine bx_ (N := 2) ?_; intro g2 hg w1 hbox hb; have GE2 := Aside0.mk (Nat.le_trans HB.out.size (Nat.le_of_eq hg.symm)); (try replace BK2 := Aside0.mk (blk_below BK2.out hb)); (try replace BK3 := Aside0.mk (blk_below BK3.out hb)); (try replace BK4 := Aside0.mk (blk_below BK4.out hb)); (try replace KP := Aside0.mk (KP.out.below hb)); replace HB := Aside0.mk (below_step HB.out hb); have BK2 := Aside0.mk hbox; clear hb hbox hg; (try clear hcz2); (try clear hcz3); (try clear hcz4); (try clear hcz6); (try have hcz2 := bc4 BK2.out); (try have hcz3 := bc10 BK3.out); (try have hcz4 := bc4 BK4.out); (try have hcz6 := bc4 KP.out.blk))
    | ((with_reducible refine gate_dst (N := 3) rfl ?_); refine bx_ (N := 3) ?_; intro g3 hg w1 hbox hb; have GE3 := Aside0.mk (Nat.le_trans HB.out.size (Nat.le_of_eq hg.symm)); (try replace BK2 := Aside0.mk (blk_below BK2.out hb)); (try replace BK3 := Aside0.mk (blk_below BK3.out hb)); (try replace BK4 := Aside0.mk (blk_below BK4.out hb)); (try replace KP := Aside0.mk (KP.out.below hb)); replace HB := Aside0.mk (below_step HB.out hb); have BK3 := Aside0.mk hbox; clear hb hbox hg; (try clear hcz2); (try clear hcz3); (try clear hcz4); (try clear hcz6); (try have hcz2 := bc4 BK2.out); (try have hcz3 := bc10 BK3.out); (try have hcz4 := bc4 BK4.out); (try have hcz6 := bc4 KP.out.blk))
    | ((with_reducible refine gate_dst (N := 4) rfl ?_); refine bx_ (N := 4) ?_; intro g4 hg w1 hbox hb; have GE4 := Aside0.mk (Nat.le_trans HB.out.size (Nat.le_of_eq hg.symm)); (try replace BK2 := Aside0.mk (blk_below BK2.out hb)); (try replace BK3 := Aside0.mk (blk_below BK3.out hb)); (try replace BK4 := Aside0.mk (blk_below BK4.out hb)); (try replace KP := Aside0.mk (KP.out.below hb)); replace HB := Aside0.mk (below_step HB.out hb); have BK4 := Aside0.mk hbox; clear hb hbox hg; (try clear hcz2); (try clear hcz3); (try clear hcz4); (try clear hcz6); (try have hcz2 := bc4 BK2.out); (try have hcz3 := bc10 BK3.out); (try have hcz4 := bc4 BK4.out); (try have hcz6 := bc4 KP.out.blk))
    | (go_at_call 30; clear TK; refine (impl_copyState.calls _ _ l0 _ _ l1 _ _ l2 _ _ l3 _ _ _ _ _ zC zL zC zL zC zL zC zL AC.out).mono ?_; rintro e w' ⟨v0, v1, v2, v3, rfl, ho0, ho1, ho2, ho3, hb⟩; obtain ⟨B0, d0, rfl⟩ := Kd.R_slice ho0; have RO0 := Aside0.mk (Kd.R_lower ho0 HB.out.size); obtain ⟨B1, d1, rfl⟩ := Kd.R_slice ho1; have RO1 := Aside0.mk (Kd.R_lower ho1 HB.out.size); obtain ⟨B2, d2, rfl⟩ := Kd.R_slice ho2; have RO2 := Aside0.mk (Kd.R_lower ho2 HB.out.size); obtain ⟨B3, d3, rfl⟩ := Kd.R_slice ho3; have RO3 := Aside0.mk (Kd.R_lower ho3 HB.out.size); (try replace BK2 := Aside0.mk (blk_below BK2.out hb)); (try replace BK3 := Aside0.mk (blk_below BK3.out hb)); (try replace BK4 := Aside0.mk (blk_below BK4.out hb)); (try replace KP := Aside0.mk (KP.out.below hb)); replace HB := Aside0.mk (below_step HB.out hb); clear hb ho0 ho1 ho2 ho3; (try clear hcz2); (try clear hcz3); (try clear hcz4); (try clear hcz6); (try have hcz2 := bc4 BK2.out); (try have hcz3 := bc10 BK3.out); (try have hcz4 := bc4 BK4.out); (try have hcz6 := bc4 KP.out.blk))
    | ((with_reducible refine gate_dst (N := 6) rfl ?_); refine al4_ (N := 6) (v0 := .slice B0 _ d0) (v1 := .slice B1 _ d1) (v2 := .slice B2 _ d2) (v3 := .slice B3 _ d3) ⟨rfl, rfl, rfl, rfl⟩ ?_; intro g6 w1 hg hbox hb; have N46 := Aside0.mk (Nat.ne_of_lt (Nat.lt_of_lt_of_eq (blk_lt BK4.out) hg.symm)); (try replace BK2 := Aside0.mk (blk_below BK2.out hb)); (try replace BK3 := Aside0.mk (blk_below BK3.out hb)); (try replace BK4 := Aside0.mk (blk_below BK4.out hb)); (try replace KP := Aside0.mk (KP.out.below hb)); replace HB := Aside0.mk (below_step HB.out hb); have KP := Aside0.mk (Kp.mk' hbox (Kd.R_below RO0.out hb) (Kd.R_below RO1.out hb) (Kd.R_below RO2.out hb) (Kd.R_below RO3.out hb)); clear hb hbox hg RO0 RO1 RO2 RO3; (try clear hcz2); (try clear hcz3); (try clear hcz4); (try clear hcz6); (try have hcz2 := bc4 BK2.out); (try have hcz3 := bc10 BK3.out); (try have hcz4 := bc4 BK4.out); (try have hcz6 := bc4 KP.out.blk))
    | (go_at_call 57; refine (impl_StateOk.calls k _ _ l0 _ _ l1 _ _ l2 _ _ l3 _ _ zC zL zC zL zC zL zC zL zA).mono ?_; rintro e w' ⟨rfl, hb⟩; (try replace BK2 := Aside0.mk (blk_below BK2.out hb)); (try replace BK3 := Aside0.mk (blk_below BK3.out hb)); (try replace BK4 := Aside0.mk (blk_below BK4.out hb)); (try replace KP := Aside0.mk (KP.out.below hb)); replace HB := Aside0.mk (below_step HB.out hb); clear hb; (try clear hcz2); (try clear hcz3); (try clear hcz4); (try clear hcz6); (try have hcz2 := bc4 BK2.out); (try have hcz3 := bc10 BK3.out); (try have hcz4 := bc4 BK4.out); (try have hcz6 := bc4 KP.out.blk))
    | (go_at_call 58; refine (impl_ActOk.calls k a0 a1 a2 _ _ kw a4 a5 a6 a7 a8 a9 _ _ zC zL zA).mono ?_; rintro e w' ⟨rfl, hb⟩; (try replace BK2 := Aside0.mk (blk_below BK2.out hb)); (try replace BK3 := Aside0.mk (blk_below BK3.out hb)); (try replace BK4 := Aside0.mk (blk_below BK4.out hb)); (try replace KP := Aside0.mk (KP.out.below hb)); replace HB := Aside0.mk (below_step HB.out hb); clear hb; (try clear hcz2); (try clear hcz3); (try clear hcz4); (try clear hcz6); (try have hcz2 := bc4 BK2.out); (try have hcz3 := bc10 BK3.out); (try have hcz4 := bc4 BK4.out); (try have hcz6 := bc4 KP.out.blk))
    | (go_at_call 59; refine (impl_Knows.calls k _ _ l0 a0 a1 _ _ zC zL zA).mono ?_; rintro e w' ⟨rfl, hb⟩; (try replace BK2 := Aside0.mk (blk_below BK2.out hb)); (try replace BK3 := Aside0.mk (blk_below BK3.out hb)); (try replace BK4 := Aside0.mk (blk_below BK4.out hb)); (try replace KP := Aside0.mk (KP.out.below hb)); replace HB := Aside0.mk (below_step HB.out hb); clear hb; (try clear hcz2); (try clear hcz3); (try clear hcz4); (try clear hcz6); (try have hcz2 := bc4 BK2.out); (try have hcz3 := bc10 BK3.out); (try have hcz4 := bc4 BK4.out); (try have hcz6 := bc4 KP.out.blk))
    | (go_at_call 60; refine (impl_KnowIn.calls k _ _ kw _ _ l0 _ _ zC zL zC zL zA).mono ?_; rintro e w' ⟨rfl, hb⟩; replace hb := drawn_below hb; (try replace BK2 := Aside0.mk (blk_below BK2.out hb)); (try replace BK3 := Aside0.mk (blk_below BK3.out hb)); (try replace BK4 := Aside0.mk (blk_below BK4.out hb)); (try replace KP := Aside0.mk (KP.out.below hb)); replace HB := Aside0.mk (below_step HB.out hb); clear hb; (try clear hcz2); (try clear hcz3); (try clear hcz4); (try clear hcz6); (try have hcz2 := bc4 BK2.out); (try have hcz3 := bc10 BK3.out); (try have hcz4 := bc4 BK4.out); (try have hcz6 := bc4 KP.out.blk))
    | (go_at_call 61; refine (impl_CellAt.calls _ _ l0 _ _ l1 _ _ l2 _ _ l3 a8 a9 _ _ zC zL zC zL zC zL zC zL zA).mono ?_; rintro e w' ⟨rfl, hb⟩; (try replace BK2 := Aside0.mk (blk_below BK2.out hb)); (try replace BK3 := Aside0.mk (blk_below BK3.out hb)); (try replace BK4 := Aside0.mk (blk_below BK4.out hb)); (try replace KP := Aside0.mk (KP.out.below hb)); replace HB := Aside0.mk (below_step HB.out hb); clear hb; (try clear hcz2); (try clear hcz3); (try clear hcz4); (try clear hcz6); (try have hcz2 := bc4 BK2.out); (try have hcz3 := bc10 BK3.out); (try have hcz4 := bc4 BK4.out); (try have hcz6 := bc4 KP.out.blk))
    )
   (try simp only [Exit.inBlock, Exit.then])
   refine bodyPost_ret (results_ct rfl _ _ g4 35 _ (0, 0) _ rfl (bpa4 BK4.out) hu35 rfl rfl) rfl ?_
   exact ⟨_, _, _, _, rfl, R_tow4 (Kd.R_mono KP.out.r0 (fun _ _ => trivial)) BK4.out (by decide), R_tow4 (Kd.R_mono KP.out.r1 (fun _ _ => trivial)) BK4.out (by decide), R_tow4 (Kd.R_mono KP.out.r2 (fun _ _ => trivial)) BK4.out (by decide), R_tow4 (Kd.R_mono KP.out.r3 (fun _ _ => trivial)) BK4.out (by decide), below_set (below_set (below_set (below_set HB.out GE4.out) GE4.out) GE4.out) GE4.out⟩
 replace H := bind_o H
 obtain ⟨i, AI, H⟩ := H
 (try dsimp only at H)
 have HC := Aside0.mk H
 clear H
 go_enter Tryz.func31, Tryz.ntmps31
 go_upto_region 9 with (first
  | ((with_reducible refine gate_dst (N := 2) rfl ?_); refine bx_ (N := 2) ?_; intro g2 hg w1 hbox hb; have GE2 := Aside0.mk (Nat.le_trans HB.out.size (Nat.le_of_eq hg.symm)); (try replace BK2 := Aside0.mk (blk_below BK2.out hb)); (try replace BK3 := Aside0.mk (blk_below BK3.out hb)); (try replace BK4 := Aside0.mk (blk_below BK4.out hb)); (try replace KP := Aside0.mk (KP.out.below hb)); replace HB := Aside0.mk (below_step HB.out hb); have BK2 := Aside0.mk hbox; clear hb hbox hg; (try clear hcz2); (try clear hcz3); (try clear hcz4); (try clear hcz6); (try have hcz2 := bc4 BK2.out); (try have hcz3 := bc10 BK3.out); (try have hcz4 := bc4 BK4.out); (try have hcz6 := bc4 KP.out.blk))
  | ((with_reducible refine gate_dst (N := 3) rfl ?_); refine bx_ (N := 3) ?_; intro g3 hg w1 hbox hb; have GE3 := Aside0.mk (Nat.le_trans HB.out.size (Nat.le_of_eq hg.symm)); (try replace BK2 := Aside0.mk (blk_below BK2.out hb)); (try replace BK3 := Aside0.mk (blk_below BK3.out hb)); (try replace BK4 := Aside0.mk (blk_below BK4.out hb)); (try replace KP := Aside0.mk (KP.out.below hb)); replace HB := Aside0.mk (below_step HB.out hb); have BK3 := Aside0.mk hbox; clear hb hbox hg; (try clear hcz2); (try clear hcz3); (try clear hcz4); (try clear hcz6); (try have hcz2 := bc4 BK2.out); (try have hcz3 := bc10 BK3.out); (try have hcz4 := bc4 BK4.out); (try have hcz6 := bc4 KP.out.blk))
  | ((with_reducible refine gate_dst (N := 4) rfl ?_); refine bx_ (N := 4) ?_; intro g4 hg w1 hbox hb; have GE4 := Aside0.mk (Nat.le_trans HB.out.size (Nat.le_of_eq hg.symm)); (try replace BK2 := Aside0.mk (blk_below BK2.out hb)); (try replace BK3 := Aside0.mk (blk_below BK3.out hb)); (try replace BK4 := Aside0.mk (blk_below BK4.out hb)); (try replace KP := Aside0.mk (KP.out.below hb)); replace HB := Aside0.mk (below_step HB.out hb); have BK4 := Aside0.mk hbox; clear hb hbox hg; (try clear hcz2); (try clear hcz3); (try clear hcz4); (try clear hcz6); (try have hcz2 := bc4 BK2.out); (try have hcz3 := bc10 BK3.out); (try have hcz4 := bc4 BK4.out); (try have hcz6 := bc4 KP.out.blk))
  | (go_at_call 30; clear TK; refine (impl_copyState.calls _ _ l0 _ _ l1 _ _ l2 _ _ l3 _ _ _ _ _ zC zL zC zL zC zL zC zL AC.out).mono ?_; rintro e w' ⟨v0, v1, v2, v3, rfl, ho0, ho1, ho2, ho3, hb⟩; obtain ⟨B0, d0, rfl⟩ := Kd.R_slice ho0; have RO0 := Aside0.mk (Kd.R_lower ho0 HB.out.size); obtain ⟨B1, d1, rfl⟩ := Kd.R_slice ho1; have RO1 := Aside0.mk (Kd.R_lower ho1 HB.out.size); obtain ⟨B2, d2, rfl⟩ := Kd.R_slice ho2; have RO2 := Aside0.mk (Kd.R_lower ho2 HB.out.size); obtain ⟨B3, d3, rfl⟩ := Kd.R_slice ho3; have RO3 := Aside0.mk (Kd.R_lower ho3 HB.out.size); (try replace BK2 := Aside0.mk (blk_below BK2.out hb)); (try replace BK3 := Aside0.mk (blk_below BK3.out hb)); (try replace BK4 := Aside0.mk (blk_below BK4.out hb)); (try replace KP := Aside0.mk (KP.out.below hb)); replace HB := Aside0.mk (below_step HB.out hb); clear hb ho0 ho1 ho2 ho3; (try clear hcz2); (try clear hcz3); (try clear hcz4); (try clear hcz6); (try have hcz2 := bc4 BK2.out); (try have hcz3 := bc10 BK3.out); (try have hcz4 := bc4 BK4.out); (try have hcz6 := bc4 KP.out.blk))
  | ((with_reducible refine gate_dst (N := 6) rfl ?_); refine al4_ (N := 6) (v0 := .slice B0 _ d0) (v1 := .slice B1 _ d1) (v2 := .slice B2 _ d2) (v3 := .slice B3 _ d3) ⟨rfl, rfl, rfl, rfl⟩ ?_; intro g6 w1 hg hbox hb; have N46 := Aside0.mk (Nat.ne_of_lt (Nat.lt_of_lt_of_eq (blk_lt BK4.out) hg.symm)); (try replace BK2 := Aside0.mk (blk_below BK2.out hb)); (try replace BK3 := Aside0.mk (blk_below BK3.out hb)); (try replace BK4 := Aside0.mk (blk_below BK4.out hb)); (try replace KP := Aside0.mk (KP.out.below hb)); replace HB := Aside0.mk (below_step HB.out hb); have KP := Aside0.mk (Kp.mk' hbox (Kd.R_below RO0.out hb) (Kd.R_below RO1.out hb) (Kd.R_below RO2.out hb) (Kd.R_below RO3.out hb)); clear hb hbox hg RO0 RO1 RO2 RO3; (try clear hcz2); (try clear hcz3); (try clear hcz4); (try clear hcz6); (try have hcz2 := bc4 BK2.out); (try have hcz3 := bc10 BK3.out); (try have hcz4 := bc4 BK4.out); (try have hcz6 := bc4 KP.out.blk))
  | (go_at_call 57; refine (impl_StateOk.calls k _ _ l0 _ _ l1 _ _ l2 _ _ l3 _ _ zC zL zC zL zC zL zC zL zA).mono ?_; rintro e w' ⟨rfl, hb⟩; (try replace BK2 := Aside0.mk (blk_below BK2.out hb)); (try replace BK3 := Aside0.mk (blk_below BK3.out hb)); (try replace BK4 := Aside0.mk (blk_below BK4.out hb)); (try replace KP := Aside0.mk (KP.out.below hb)); replace HB := Aside0.mk (below_step HB.out hb); clear hb; (try clear hcz2); (try clear hcz3); (try clear hcz4); (try clear hcz6); (try have hcz2 := bc4 BK2.out); (try have hcz3 := bc10 BK3.out); (try have hcz4 := bc4 BK4.out); (try have hcz6 := bc4 KP.out.blk))
  | (go_at_call 58; refine (impl_ActOk.calls k a0 a1 a2 _ _ kw a4 a5 a6 a7 a8 a9 _ _ zC zL zA).mono ?_; rintro e w' ⟨rfl, hb⟩; (try replace BK2 := Aside0.mk (blk_below BK2.out hb)); (try replace BK3 := Aside0.mk (blk_below BK3.out hb)); (try replace BK4 := Aside0.mk (blk_below BK4.out hb)); (try replace KP := Aside0.mk (KP.out.below hb)); replace HB := Aside0.mk (below_step HB.out hb); clear hb; (try clear hcz2); (try clear hcz3); (try clear hcz4); (try clear hcz6); (try have hcz2 := bc4 BK2.out); (try have hcz3 := bc10 BK3.out); (try have hcz4 := bc4 BK4.out); (try have hcz6 := bc4 KP.out.blk))
  | (go_at_call 59; refine (impl_Knows.calls k _ _ l0 a0 a1 _ _ zC zL zA).mono ?_; rintro e w' ⟨rfl, hb⟩; (try replace BK2 := Aside0.mk (blk_below BK2.out hb)); (try replace BK3 := Aside0.mk (blk_below BK3.out hb)); (try replace BK4 := Aside0.mk (blk_below BK4.out hb)); (try replace KP := Aside0.mk (KP.out.below hb)); replace HB := Aside0.mk (below_step HB.out hb); clear hb; (try clear hcz2); (try clear hcz3); (try clear hcz4); (try clear hcz6); (try have hcz2 := bc4 BK2.out); (try have hcz3 := bc10 BK3.out); (try have hcz4 := bc4 BK4.out); (try have hcz6 := bc4 KP.out.blk))
  | (go_at_call 60; refine (impl_KnowIn.calls k _ _ kw _ _ l0 _ _ zC zL zC zL zA).mono ?_; rintro e w' ⟨rfl, hb⟩; replace hb := drawn_below hb; (try replace BK2 := Aside0.mk (blk_below BK2.out hb)); (try replace BK3 := Aside0.mk (blk_below BK3.out hb)); (try replace BK4 := Aside0.mk (blk_below BK4.out hb)); (try replace KP := Aside0.mk (KP.out.below hb)); replace HB := Aside0.mk (below_step HB.out hb); clear hb; (try clear hcz2); (try clear hcz3); (try clear hcz4); (try clear hcz6); (try have hcz2 := bc4 BK2.out); (try have hcz3 := bc10 BK3.out); (try have hcz4 := bc4 BK4.out); (try have hcz6 := bc4 KP.out.blk))
  | (go_at_call 61; refine (impl_CellAt.calls _ _ l0 _ _ l1 _ _ l2 _ _ l3 a8 a9 _ _ zC zL zC zL zC zL zC zL zA).mono ?_; rintro e w' ⟨rfl, hb⟩; (try replace BK2 := Aside0.mk (blk_below BK2.out hb)); (try replace BK3 := Aside0.mk (blk_below BK3.out hb)); (try replace BK4 := Aside0.mk (blk_below BK4.out hb)); (try replace KP := Aside0.mk (KP.out.below hb)); replace HB := Aside0.mk (below_step HB.out hb); clear hb; (try clear hcz2); (try clear hcz3); (try clear hcz4); (try clear hcz6); (try have hcz2 := bc4 BK2.out); (try have hcz3 := bc10 BK3.out); (try have hcz4 := bc4 BK4.out); (try have hcz6 := bc4 KP.out.blk))
  )
 (try simp only [Act.put, List.setIfInBounds_toArray, List.set_cons_zero, List.set_cons_succ])
 obtain ⟨NN, KP⟩ : ∃ NN, Aside0 (Kp w _ NN g6 (.slice B0 o.1.length d0) (.slice B1 o.2.1.length d1) (.slice B2 o.2.2.1.length d2) (.slice B3 o.2.2.2.length d3) o.1 o.2.1 o.2.2.1 o.2.2.2) := ⟨_, KP⟩
 go_cut [75] (fun v75 wc => ∃ bad : Bool, v75 = .bool bad ∧ Aside0 ((if bad = true then some (o.1, o.2.1, o.2.2.1, o.2.2.2, 3) else impl_DoAct.g k o l1 l2 l3 a0 a1 a2 kw a4 a5 a6 a7 a8 a9 i) = some (r1, r2, r3, r4, r5)) ∧ Aside0 (wc.heap[g2]? = some (.cells #[.slice A0 l0.length m0, .slice A1 l1.length m1, .slice A2 l2.length m2, .slice A3 l3.length m3] 35 (0, 0)) ∧ wc.heap[g3]? = some (.cells #[.int .i64 a0, .int .i64 a1, .int .i64 a2, .slice B kw.length cb, .int .i64 a4, .string a5, .string a6, .int .i64 a7, .int .i64 a8, .int .i64 a9] 61 (0, 0)) ∧ (∃ z0 z1 z2 z3 : Value, wc.heap[g4]? = some (.cells #[z0, z1, z2, z3] 35 (0, 0))) ∧ Kp w wc NN g6 (.slice B0 o.1.length d0) (.slice B1 o.2.1.length d1) (.slice B2 o.2.2.1.length d2) (.slice B3 o.2.2.2.length d3) o.1 o.2.1 o.2.2.1 o.2.2.2 ∧ Below w.heap.size w wc))
 case first =>
  have H := HC.out
  clear HC
  replace H := ite_b H
  rcases H with ⟨cb1, H⟩ | ⟨cb1, H⟩
  rotate_left
  replace H := ite_lt H
  rcases H with ⟨cb2, H⟩ | ⟨cb2, H⟩
  rotate_left
  obtain ⟨ad, e, hx, ⟨_, _, _, _⟩, H⟩ := elo_ (at_T96 HR3.out _) H
  cases e
  replace H := ite_es H
  rcases H with ⟨cb3, H⟩ | ⟨cb3, H⟩
  replace H := ite_ei H
  rcases H with ⟨cb4, H⟩ | ⟨cb4, H⟩
  replace H := ite_le H
  rcases H with ⟨cb5, H⟩ | ⟨cb5, H⟩
  all_goals
   have H' := Aside0.mk H
   clear H HR0 HC0 HR1 HC1 HR2 HC2 HR3 HC3 HRK HCK AC AI GE2 GE3 hu61 hu35 hu93
   refine startf_ (F := fun W => W.heap[g2]? = some (.cells #[.slice A0 l0.length m0, .slice A1 l1.length m1, .slice A2 l2.length m2, .slice _ l3.length m3] 35 (0, 0)) ∧ W.heap[g3]? = some (.cells #[.int .i64 a0, .int .i64 a1, .int .i64 a2, .slice B kw.length cb, .int .i64 a4, .string a5, .string a6, .int .i64 a7, .int .i64 a8, .int .i64 a9] 61 (0, 0)) ∧ (∃ z0 z1 z2 z3 : Value, W.heap[g4]? = some (.cells #[z0, z1, z2, z3] 35 (0, 0))) ∧ Kp w W NN g6 (.slice B0 o.1.length d0) (.slice B1 o.2.1.length d1) (.slice B2 o.2.2.1.length d2) (.slice B3 o.2.2.2.length d3) o.1 o.2.1 o.2.2.1 o.2.2.2 ∧ Below w.heap.size w W) ⟨BK2.out, BK3.out, ⟨_, _, _, _, BK4.out⟩, KP.out, HB.out⟩ (fun W h => ⟨blk_drew h.1, blk_drew h.2.1, h.2.2.1, h.2.2.2.1.drew, below_drew h.2.2.2.2⟩) (fun w_ hHeld => ?_)
   clear BK2 BK3 BK4 KP HB hcz2 hcz3 hcz4 hcz6
   refine with_tabW impl_DoAct.tab9 (B := []) zK (fun HT_ HW_ => ?_)
   repeat (first | refine us_ ?_ | refine ps_ ?_ | refine ts_ hHeld ?_ (hv := by intro w' hs; have hc_ := bc4 hs.1; have hc2_ := bc10 hs.2.1; (try have hy_ := cb8 hs.2.2.2.2 hx); go_simp; with_reducible rfl))
   refine done_ (done_of HT_.out zK) ?_
   obtain ⟨BK2, BK3, ⟨z0, z1, z2, z3, BK4⟩, KP, HB⟩ := hHeld
   replace BK2 := Aside0.mk BK2; replace BK3 := Aside0.mk BK3; replace BK4 := Aside0.mk BK4; replace KP := Aside0.mk KP; replace HB := Aside0.mk HB
   (try go_wp2)
   go_meet
   case rel => exact ⟨_, rfl, ⟨H'.out⟩, ⟨BK2.out, BK3.out, ⟨z0, z1, z2, z3, BK4.out⟩, KP.out, HB.out⟩⟩
 case rest =>
  clear HC BK2 BK3 BK4 KP HB hcz2 hcz3 hcz4 hcz6
  obtain ⟨bad, rfl, HC, HF⟩ := hcut
  obtain ⟨BK2, BK3, ⟨z0, z1, z2, z3, BK4⟩, KP, HB⟩ := HF.out
  clear HF
  replace BK2 := Aside0.mk BK2; replace BK3 := Aside0.mk BK3; replace BK4 := Aside0.mk BK4; replace KP := Aside0.mk KP; replace HB := Aside0.mk HB
  have hcz2 := bc4 BK2.out; have hcz3 := bc10 BK3.out; have hcz4 := bc4 BK4.out; have hcz6 := bc4 KP.out.blk
  have H := HC.out
  clear HC
  replace H := ite_b H
  rcases H with ⟨rfl, H⟩ | ⟨rfl, H⟩
  ·
   obtain ⟨rfl, rfl, rfl, rfl, rfl⟩ : _ ∧ _ ∧ _ ∧ _ ∧ _ := by simpa only [Option.some.injEq, Prod.mk.injEq] using H
   go_wp2
   (try simp only [Exit.inBlock, Exit.then])
   refine bodyPost_ret (results_ct rfl _ _ g4 35 _ (0, 0) _ rfl (bpa4 BK4.out) hu35 rfl rfl) rfl ?_
   exact ⟨_, _, _, _, rfl, R_tow4 (Kd.R_mono KP.out.r0 (fun _ _ => trivial)) BK4.out (by decide), R_tow4 (Kd.R_mono KP.out.r1 (fun _ _ => trivial)) BK4.out (by decide), R_tow4 (Kd.R_mono KP.out.r2 (fun _ _ => trivial)) BK4.out (by decide), R_tow4 (Kd.R_mono KP.out.r3 (fun _ _ => trivial)) BK4.out (by decide), below_set (below_set (below_set (below_set HB.out GE4.out) GE4.out) GE4.out) GE4.out⟩
  unfold impl_DoAct.g at H
  replace H := ite_le H
  rcases H with ⟨c', H⟩ | ⟨c', H⟩
  rotate_left
  · exact none_o H
  replace H := ite_lt H
  rcases H with ⟨c, H⟩ | ⟨c, H⟩
  rotate_left
  · exact none_o H
  replace H := bind_s H
  (try dsimp only at H)
  have HC := Aside0.mk H
  clear H
  have p := eqt c
  have p' := eqt c'
  have POS : Aside0 (0 < o.1.length) := ⟨by have hl := of_decide_eq_true c; have hl' := of_decide_eq_true c'; omega⟩
  have TK2 := Aside0.mk trivial
  have TKS := Aside0.mk trivial
  obtain ⟨f0, f1, f2, f3, KP⟩ : ∃ f0 f1 f2 f3, Aside0 (Kp w _ NN g6 (.slice B0 o.1.length f0) (.slice B1 o.2.1.length f1) (.slice B2 o.2.2.1.length f2) (.slice B3 o.2.2.2.length f3) o.1 o.2.1 o.2.2.1 o.2.2.2) := ⟨_, _, _, _, KP⟩
  go_upto_block 1 with (first
   | (go_at_call 30; refine (impl_copyState.calls _ _ l0 _ _ l1 _ _ l2 _ _ l3 _ _ _ _ _ zC zL zC zL zC zL zC zL AC.out).mono ?_; rintro e w' ⟨v0, v1, v2, v3, rfl, ho0, ho1, ho2, ho3, hb⟩; have KPle := Aside0.mk KP.out.le; obtain ⟨C0, d0, rfl⟩ := Kd.R_slice ho0; have RQ0 := Aside0.mk (Kd.R_lower ho0 HB.out.size); obtain ⟨C1, d1, rfl⟩ := Kd.R_slice ho1; have RQ1 := Aside0.mk (Kd.R_lower ho1 HB.out.size); obtain ⟨C2, d2, rfl⟩ := Kd.R_slice ho2; have RQ2 := Aside0.mk (Kd.R_lower ho2 HB.out.size); obtain ⟨C3, d3, rfl⟩ := Kd.R_slice ho3; have RQ3 := Aside0.mk (Kd.R_lower ho3 HB.out.size); clear TK2; (try replace BK2 := Aside0.mk (blk_below BK2.out hb)); (try replace BK3 := Aside0.mk (blk_below BK3.out hb)); (try replace BK4 := Aside0.mk (blk_below BK4.out hb)); (try replace KP := Aside0.mk (KP.out.below hb)); (try replace ST := Aside0.mk (ST.out.below hb)); replace HB := Aside0.mk (below_step HB.out hb); have NB0 := Aside0.mk (fun k hk => Nat.le_trans KPle.out (Kd.R_base ho0 k hk)); have NB3 := Aside0.mk (fun k hk => Nat.le_trans KPle.out (Kd.R_base ho3 k hk)); clear hb ho0 ho1 ho2 ho3; (try clear hcz2); (try clear hcz3); (try clear hcz4); (try clear hcz6); (try clear hcz8); (try have hcz2 := bc4 BK2.out); (try have hcz3 := bc10 BK3.out); (try have hcz4 := bc4 BK4.out); (try have hcz6 := bc4 KP.out.blk); (try have hcz8 := bc4 ST.out.blk))
   | ((with_reducible refine gate_dst (N := 8) rfl ?_); refine al4_ (N := 8) (v0 := .slice C0 _ d0) (v1 := .slice C1 _ d1) (v2 := .slice C2 _ d2) (v3 := .slice C3 _ d3) ⟨rfl, rfl, rfl, rfl⟩ ?_; intro g8 w1 hg hbox hb; have GE8 := Aside0.mk (Nat.le_trans HB.out.size (Nat.le_of_eq hg.symm)); have N48 := Aside0.mk (Nat.ne_of_lt (Nat.lt_of_lt_of_eq (blk_lt BK4.out) hg.symm)); have N68 := Aside0.mk (Nat.ne_of_lt (Nat.lt_of_lt_of_eq (blk_lt KP.out.blk) hg.symm)); have NN8 := Aside0.mk (Nat.le_trans KP.out.le (Nat.le_of_eq hg.symm)); (try replace BK2 := Aside0.mk (blk_below BK2.out hb)); (try replace BK3 := Aside0.mk (blk_below BK3.out hb)); (try replace BK4 := Aside0.mk (blk_below BK4.out hb)); (try replace KP := Aside0.mk (KP.out.below hb)); (try replace ST := Aside0.mk (ST.out.below hb)); replace HB := Aside0.mk (below_step HB.out hb); have ST := Aside0.mk (⟨hbox, Kd.R_below RQ0.out hb, Kd.R_below RQ1.out hb, Kd.R_below RQ2.out hb, Kd.R_below RQ3.out hb, HB.out, GE8.out, fun _ _ _ _ hc _ => hc⟩ : St w w1 w1 g8 _ _ _ _ o.1 o.2.1 o.2.2.1 o.2.2.2); clear hb hbox hg RQ0 RQ1 RQ2 RQ3; obtain ⟨b0, cp, e0, _⟩ := Kd.R_form ST.out.r0 POS.out; cases e0; (try clear hcz2); (try clear hcz3); (try clear hcz4); (try clear hcz6); (try clear hcz8); (try have hcz2 := bc4 BK2.out); (try have hcz3 := bc10 BK3.out); (try have hcz4 := bc4 BK4.out); (try have hcz6 := bc4 KP.out.blk); (try have hcz8 := bc4 ST.out.blk))
   | ((with_reducible refine gate_no rfl ?_); clear TKS; obtain ⟨ad, e1, hx⟩ := Kd.at_int (Kd.R_reads' ST.out.r0).2.2 a0 (of_decide_eq_true (by with_reducible assumption)) (of_decide_eq_true (by with_reducible assumption)); cases e1; simp only [add_plain, Nat.zero_add] at hx; refine stp_ (d := Kd.int .i64) (k := 0) (ix := a0) (x' := a1) (seg := [.int .i64 a1]) (c := [.int .i64 (rd o.1 a0)]) ST.out.r0 (cc1 ((congrArg _ (congrArg (fun n => (⟨b0, n, none⟩ : Addr)) (Nat.mul_one _))).trans hx)) (of_decide_eq_true (by with_reducible assumption)) (of_decide_eq_true (by with_reducible assumption)) rfl rfl rfl (Nat.mul_one _).symm rfl rfl rfl (one1 rfl) rfl (Nat.le_refl 1) ?_; intro w2 hR hG; (try replace BK2 := Aside0.mk (blk_grown BK2.out hG (Kd.R_ne ST.out.r0 BK2.out (by decide)))); (try replace BK3 := Aside0.mk (blk_grown BK3.out hG (Kd.R_ne ST.out.r0 BK3.out (by decide)))); replace BK4 := Aside0.mk (blk_grown BK4.out hG (Kd.R_ne ST.out.r0 BK4.out (by decide))); replace KP := Aside0.mk (KP.out.grown hG (NB0.out b0 rfl) (Kd.R_ne ST.out.r0 KP.out.blk (by decide))); replace ST := Aside0.mk (ST.out.sto0 rfl hG hR); replace HB := Aside0.mk ST.out.hb; clear hR hG hx; obtain ⟨kn, hkn⟩ : ∃ kn, kn = o.1.set a0.toNat a1 := ⟨_, rfl⟩; have hl : o.1.length = kn.length := (by rw [hkn, List.length_set]); rw [← hkn] at HC ST; rw [hl] at ST; clear hkn hl; (try clear hcz2); (try clear hcz3); (try clear hcz4); (try clear hcz6); (try clear hcz8); (try have hcz2 := bc4 BK2.out); (try have hcz3 := bc10 BK3.out); (try have hcz4 := bc4 BK4.out); (try have hcz6 := bc4 KP.out.blk); (try have hcz8 := bc4 ST.out.blk))
   )
  (try simp only [Act.put, List.setIfInBounds_toArray, List.set_cons_zero, List.set_cons_succ])
  go_cut [90] (fun v90 wc => ∃ (p0 : List Int) (p1 : List S90) (p2 : List S93) (p3 : List S96) (s0 s1 s2 s3 z0 z1 z2 z3 : Value), Aside0 (impl_DoAct.e o p0 p1 p2 p3 = some (r1, r2, r3, r4, r5)) ∧ Aside0 (St w wc wc g8 s0 s1 s2 s3 p0 p1 p2 p3) ∧ Aside0 (wc.heap[g4]? = some (.cells #[z0, z1, z2, z3] 35 (0, 0))) ∧ Aside0 (Kp w wc NN g6 (.slice B0 o.1.length f0) (.slice B1 o.2.1.length f1) (.slice B2 o.2.2.1.length f2) (.slice B3 o.2.2.2.length f3) o.1 o.2.1 o.2.2.1 o.2.2.2) ∧ Aside0 (Below w.heap.size w wc))
  case first =>
   have H := HC.out
   clear HC
   iterate 7
    replace H := ite_ei H
    rcases H with ⟨d1, H⟩ | ⟨d1, H⟩
    rotate_left
   all_goals (try ((with_reducible replace H := bind_o H); obtain ⟨t, A, H⟩ := H; (try dsimp only at H)))
   all_goals (try ((with_reducible replace H := bind_o H); obtain ⟨t2, A2, H⟩ := H; (try dsimp only at H)))
   all_goals (try ((with_reducible replace H := ite_le H); rcases H with ⟨q', H⟩ | ⟨-, H⟩; rotate_left; (exact none_o H)))
   all_goals (try ((with_reducible replace H := ite_lt H); rcases H with ⟨q, H⟩ | ⟨-, H⟩; rotate_left; (exact none_o H)))
   all_goals
    have H' := Aside0.mk H
    clear H
    first
    | (have q1 : decide (i < (o.2.2.2.length : Int)) = true := by with_reducible assumption
       have q2 : decide (0 ≤ i) = true := by with_reducible assumption
       obtain ⟨b3, cp3, e3, _⟩ := Kd.R_form ST.out.r3 (by have h1 := of_decide_eq_true q1; have h2 := of_decide_eq_true q2; omega)
       cases e3
       have P1 := eqt q1
       have P2 := eqt q2)
    | skip
    go_wp2_with (first
     | (go_at_call 62; refine (impl_withTally.calls k _ _ l1 a5 a0 a7 _ _ zC zL zA).mono ?_; rintro e w' ⟨v0, rfl, ho, hb⟩; obtain ⟨X, dx, rfl⟩ := Kd.R_slice ho; (try replace BK2 := Aside0.mk (blk_below BK2.out hb)); (try replace BK3 := Aside0.mk (blk_below BK3.out hb)); (try replace BK4 := Aside0.mk (blk_below BK4.out hb)); (try replace KP := Aside0.mk (KP.out.below hb)); (try replace ST := Aside0.mk (ST.out.below hb)); (try replace RX := Aside0.mk (Kd.R_below RX.out hb)); (try clear RX); have RX := Aside0.mk (Kd.R_lower ho HB.out.size); replace HB := Aside0.mk (below_step HB.out hb); clear hb ho; (try clear hcz2); (try clear hcz3); (try clear hcz4); (try clear hcz6); (try clear hcz8); (try have hcz2 := bc4 BK2.out); (try have hcz3 := bc10 BK3.out); (try have hcz4 := bc4 BK4.out); (try have hcz6 := bc4 KP.out.blk); (try have hcz8 := bc4 ST.out.blk))
     | (go_at_call 64; refine (impl_withoutKnown.calls k _ _ l2 _ a0 a1 a2 _ _ kw a4 a5 a6 a7 a8 a9 _ _ zC zL zC zL zA).mono ?_; rintro e w' ⟨v0, rfl, ho, hb⟩; obtain ⟨X, dx, rfl⟩ := Kd.R_slice ho; (try replace BK2 := Aside0.mk (blk_below BK2.out hb)); (try replace BK3 := Aside0.mk (blk_below BK3.out hb)); (try replace BK4 := Aside0.mk (blk_below BK4.out hb)); (try replace KP := Aside0.mk (KP.out.below hb)); (try replace ST := Aside0.mk (ST.out.below hb)); (try replace RX := Aside0.mk (Kd.R_below RX.out hb)); (try clear RX); have RX := Aside0.mk (Kd.R_lower ho HB.out.size); replace HB := Aside0.mk (below_step HB.out hb); clear hb ho; (try clear hcz2); (try clear hcz3); (try clear hcz4); (try clear hcz6); (try clear hcz8); (try have hcz2 := bc4 BK2.out); (try have hcz3 := bc10 BK3.out); (try have hcz4 := bc4 BK4.out); (try have hcz6 := bc4 KP.out.blk); (try have hcz8 := bc4 ST.out.blk))
     | (go_at_call 63; refine (impl_withLive.calls k _ _ _ _ a5 a6 _ a0 a1 _ _ (by first | exact zC | exact (Kd.R_reads' RX.out).2.2) (by first | exact (Kd.R_reads' RX.out).2.1 | exact zL) zA).mono ?_; rintro e w' ⟨v0, rfl, ho, hb⟩; obtain ⟨X, dx, rfl⟩ := Kd.R_slice ho; (try replace BK2 := Aside0.mk (blk_below BK2.out hb)); (try replace BK3 := Aside0.mk (blk_below BK3.out hb)); (try replace BK4 := Aside0.mk (blk_below BK4.out hb)); (try replace KP := Aside0.mk (KP.out.below hb)); (try replace ST := Aside0.mk (ST.out.below hb)); (try replace RX := Aside0.mk (Kd.R_below RX.out hb)); (try clear RX); have RX := Aside0.mk (Kd.R_lower ho HB.out.size); replace HB := Aside0.mk (below_step HB.out hb); clear hb ho; (try clear hcz2); (try clear hcz3); (try clear hcz4); (try clear hcz6); (try clear hcz8); (try have hcz2 := bc4 BK2.out); (try have hcz3 := bc10 BK3.out); (try have hcz4 := bc4 BK4.out); (try have hcz6 := bc4 KP.out.blk); (try have hcz8 := bc4 ST.out.blk))
     | (go_at_call 65; refine (impl_withCell.calls k _ _ l3 a5 a0 a1 a2 a8 a9 a7 false _ _ zC zL zA).mono ?_; rintro e w' ⟨v0, rfl, ho, hb⟩; obtain ⟨X, dx, rfl⟩ := Kd.R_slice ho; (try replace BK2 := Aside0.mk (blk_below BK2.out hb)); (try replace BK3 := Aside0.mk (blk_below BK3.out hb)); (try replace BK4 := Aside0.mk (blk_below BK4.out hb)); (try replace KP := Aside0.mk (KP.out.below hb)); (try replace ST := Aside0.mk (ST.out.below hb)); (try replace RX := Aside0.mk (Kd.R_below RX.out hb)); (try clear RX); have RX := Aside0.mk (Kd.R_lower ho HB.out.size); replace HB := Aside0.mk (below_step HB.out hb); clear hb ho; (try clear hcz2); (try clear hcz3); (try clear hcz4); (try clear hcz6); (try clear hcz8); (try have hcz2 := bc4 BK2.out); (try have hcz3 := bc10 BK3.out); (try have hcz4 := bc4 BK4.out); (try have hcz6 := bc4 KP.out.blk); (try have hcz8 := bc4 ST.out.blk))
     | ((with_reducible refine gate_no rfl ?_); obtain ⟨ad, e1, hx⟩ := at_T96 (Kd.R_reads' ST.out.r3).2.2 i (of_decide_eq_true (by with_reducible assumption)) (of_decide_eq_true (by with_reducible assumption)); cases e1; simp only [add_plain, Nat.zero_add] at hx; refine stp_ (d := k96) (k := 7) (ix := i) (x' := ⟨_, ⟨_, _⟩, _, ⟨_, _⟩, _, _⟩) (seg := [.bool true]) (c := [.string (rd_T96 o.2.2.2 i).f0, .int .i64 (rd_T96 o.2.2.2 i).f1.f0, .int .i64 (rd_T96 o.2.2.2 i).f1.f1, .int .i64 (rd_T96 o.2.2.2 i).f2, .int .i64 (rd_T96 o.2.2.2 i).f3.f0, .int .i64 (rd_T96 o.2.2.2 i).f3.f1, .int .i64 (rd_T96 o.2.2.2 i).f4, .bool (rd_T96 o.2.2.2 i).f5]) ST.out.r3 (cc8 hx) (of_decide_eq_true (by with_reducible assumption)) (of_decide_eq_true (by with_reducible assumption)) mk96 rfl rfl (by simp; rfl) rfl rfl rfl (one1 rfl) rfl (Nat.le_refl 8) ?_; intro w2 hR hG; (try replace BK2 := Aside0.mk (blk_grown BK2.out hG (Kd.R_ne ST.out.r3 BK2.out (by decide)))); (try replace BK3 := Aside0.mk (blk_grown BK3.out hG (Kd.R_ne ST.out.r3 BK3.out (by decide)))); replace BK4 := Aside0.mk (blk_grown BK4.out hG (Kd.R_ne ST.out.r3 BK4.out (by decide))); replace KP := Aside0.mk (KP.out.grown hG (NB3.out b3 rfl) (Kd.R_ne ST.out.r3 KP.out.blk (by decide))); replace ST := Aside0.mk (ST.out.sto3 rfl hG hR); replace HB := Aside0.mk ST.out.hb; clear hR hG hx; (try clear hcz2); (try clear hcz3); (try clear hcz4); (try clear hcz6); (try clear hcz8); (try have hcz2 := bc4 BK2.out); (try have hcz3 := bc10 BK3.out); (try have hcz4 := bc4 BK4.out); (try have hcz6 := bc4 KP.out.blk); (try have hcz8 := bc4 ST.out.blk))
     )
    go_meet
    case rel => exact ⟨_, _, _, _, _, _, _, _, z0, z1, z2, z3, H', ⟨by first | exact ST.out.re | exact (ST.out.set1 RX.out).re | exact (ST.out.set2 RX.out).re | exact (ST.out.set3 RX.out).re⟩, ⟨by first | exact BK4.out | exact (Below.heap_setCell _ _ _ _ N48.out).trans BK4.out⟩, ⟨by first | exact KP.out | exact KP.out.set NN8.out N68.out⟩, ⟨by first | exact HB.out | exact below_set HB.out GE8.out⟩⟩
  case rest =>
   clear HC ST BK2 BK3 BK4 KP HB hcz2 hcz3 hcz4 hcz6 hcz8
   obtain ⟨p0, p1, p2, p3, s0, s1, s2, s3, z0, z1, z2, z3, HE, ST, BK4, KP, HB⟩ := hcut
   obtain ⟨E0, E1, E2, E3, h0, h1, h2, h3, rfl, rfl, rfl, rfl⟩ := ST.out.shape
   have hcz4 := bc4 BK4.out; have hcz6 := bc4 KP.out.blk; have hcz8 := bc4 ST.out.blk
   have H := HE.out
   clear HE
   unfold impl_DoAct.e at H
   replace H := bind_o H
   obtain ⟨t, A, H⟩ := H
   (try dsimp only at H)
   replace H := ite_b H
   rcases H with ⟨rfl, H⟩ | ⟨rfl, H⟩
   all_goals
    obtain ⟨rfl, rfl, rfl, rfl, rfl⟩ : _ ∧ _ ∧ _ ∧ _ ∧ _ := by simpa only [Option.some.injEq, Prod.mk.injEq] using H
    go_wp2_with (first
     | (go_at_call 66; refine (impl_tooMany.calls _ _ p0 _ _ p1 _ _ p2 _ _ p3 _ _ (Kd.R_reads' ST.out.r0).2.2 (Kd.R_reads' ST.out.r0).2.1 (Kd.R_reads' ST.out.r1).2.2 (Kd.R_reads' ST.out.r1).2.1 (Kd.R_reads' ST.out.r2).2.2 (Kd.R_reads' ST.out.r2).2.1 (Kd.R_reads' ST.out.r3).2.2 (Kd.R_reads' ST.out.r3).2.1 zA).mono ?_; rintro e w' ⟨rfl, hb⟩; (try replace BK4 := Aside0.mk (blk_below BK4.out hb)); (try replace KP := Aside0.mk (KP.out.below hb)); (try replace ST := Aside0.mk (ST.out.below hb)); replace HB := Aside0.mk (below_step HB.out hb); clear hb; (try clear hcz2); (try clear hcz4); (try clear hcz6); (try clear hcz8); (try have hcz2 := bc4 BK2.out); (try have hcz4 := bc4 BK4.out); (try have hcz6 := bc4 KP.out.blk); (try have hcz8 := bc4 ST.out.blk))
     )
    (try simp only [Exit.inBlock, Exit.then])
    refine bodyPost_ret (results_ct rfl _ _ g4 35 _ (0, 0) _ rfl (bpa4 BK4.out) hu35 rfl rfl) rfl ?_
    first
    | exact ⟨_, _, _, _, rfl, R_tow4 (Kd.R_mono KP.out.r0 (fun _ _ => trivial)) BK4.out (by decide), R_tow4 (Kd.R_mono KP.out.r1 (fun _ _ => trivial)) BK4.out (by decide), R_tow4 (Kd.R_mono KP.out.r2 (fun _ _ => trivial)) BK4.out (by decide), R_tow4 (Kd.R_mono KP.out.r3 (fun _ _ => trivial)) BK4.out (by decide), below_set (below_set (below_set (below_set HB.out GE4.out) GE4.out) GE4.out) GE4.out⟩
    | exact ⟨_, _, _, _, rfl, R_tow4 ST.out.r0 BK4.out (by decide), R_tow4 ST.out.r1 BK4.out (by decide), R_tow4 ST.out.r2 BK4.out (by decide), R_tow4 ST.out.r3 BK4.out (by decide), below_set (below_set (below_set (below_set HB.out GE4.out) GE4.out) GE4.out) GE4.out⟩
end Go.Proofs.YtbanogkoaplcdaaGreat.QDa
