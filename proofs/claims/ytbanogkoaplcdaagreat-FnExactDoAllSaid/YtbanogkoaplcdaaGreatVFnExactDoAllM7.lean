/- Parts of the proof of FnExactDoAll, one behind the other. No condition. -/
import Derived.Test.YtbanogkoaplcdaaGreatVFnExactDoAllM6
namespace Go.Proofs.YtbanogkoaplcdaaGreat.QDa
open Go.RowKit Go.Proofs.YtbanogkoaplcdaaGreat.Reg14 Go.Proofs.YtbanogkoaplcdaaGreat.Reg13 Go.Proofs.YtbanogkoaplcdaaGreat.Reg12 Go.Proofs.YtbanogkoaplcdaaGreat.Reg11 Go.Proofs.YtbanogkoaplcdaaGreat.Reg10 Go.Proofs.YtbanogkoaplcdaaGreat.Reg9 Go.Proofs.YtbanogkoaplcdaaGreat.Lock Go.Proofs.YtbanogkoaplcdaaGreat.Auto Go.Proofs.YtbanogkoaplcdaaGreat.Short Go.Proofs.YtbanogkoaplcdaaGreatW.PrintWords Go.Proofs.YtbanogkoaplcdaaGreatW.PrintLast Go.Proofs.YtbanogkoaplcdaaGreatW.PrintMore
attribute [local go_sem] max2_int min2_int max_two min_two max_three min_three max_four min_four   -- for this text's walks alone
set_option linter.unusedVariables false
set_option linter.unusedSimpArgs false
theorem z17_15 {P : Prop} (h : P := by first | (with_reducible assumption) | assumption) : P := h
theorem z17_13 {P : Prop} (h : P := by first | rfl | (simp; done) | (simp [*]; done)) : P := h
theorem z17_9 {P : Prop} (h : P := by repeat (first | exact Drawn0.refl _ | apply Drawn0.step)) : P := h
theorem z17_3 {P : Prop} (h : P := by kernel_rfl) : P := h
def impl_copyState.f (l0_0 : List (Int)) (l0_1 : List (S90)) (l0_2 : List (S93)) (l0_3 : List (S96)) : Option (List (Int) × List (S90) × List (S93) × List (S96)) := (impl_copyInts.f l0_0).bind fun t => (if l0_1.length < 4398046511104 then (if l0_2.length < 2199023255552 then (if l0_3.length < 1954687338268 then some (t, l0_1, l0_2, l0_3) else none) else none) else none)
def impl_copyState.T1 : Bool × List (List Nat × List Nat) := (true, [([], []), ([0], [0]), ([1], [1]), ([], []), ([], []), ([4], [4]), ([3, 5, 2], [3, 5]), ([], []), ([], []), ([8], [8]), ([7, 9, 6], [7, 9]), ([], []), ([], []), ([12], [12]), ([11, 13, 10], [11, 13]), ([2, 6, 10, 14], [2, 6, 10, 14]), ([15, 14, 0, 1, 2, 3, 4, 5, 6, 7, 8, 9, 10, 11, 12, 13, 14, 15], [15])])
def impl_copyState.B1 : List Nat := [0, 1, 3, 0, 0, 16, 63, 0, 0, 256, 1023, 0, 0, 4096, 16383, 32767, 65535]
theorem impl_copyState.tab1 : rtab .any (opsOf Tryz.f30 1) = impl_copyState.T1 := by kernel_rfl
theorem impl_copyState.bits1 : waitsOk impl_copyState.T1.2 impl_copyState.B1 = true := by kernel_rfl
def impl_copyState.ty : List (List Nat) := [[], [], [3], [90], [], [], [90], [93], [], [], [93], [96], [], [], [96], [3, 90, 93, 96]]
def impl_copyState.ch : List (List Nat) := [[], [], [], [], [], [], [90], [], [], [], [93], [], [], [], [96], []]
def impl_copyState.R (w : World) (g1 : Nat) (A0_0 : Option Addr) (c0_0 : Nat) (l0_0 : List (Int)) (A0_1 : Option Addr) (c0_1 : Nat) (l0_1 : List (S90)) (A0_2 : Option Addr) (c0_2 : Nat) (l0_2 : List (S93)) (A0_3 : Option Addr) (c0_3 : Nat) (l0_3 : List (S96)) (t : List Int) (i : Nat) (v : Value) (W : World) : Prop := match i with
  | 0 => v = .pointer (some ⟨g1, 0, none⟩)
  | 1 => v = .slice A0_0 l0_0.length c0_0
  | 2 => Kd.R (Kd.int .i64) 3 W w.heap.size (fun _ => True) v t
  | 3 => Kd.R k90 90 W w.heap.size (fun _ => True) v []
  | 4 => v = .pointer (some ⟨g1, 1, none⟩)
  | 5 => v = .slice A0_1 l0_1.length c0_1
  | 6 => Kd.R k90 90 W w.heap.size (fun _ => True) v l0_1
  | 7 => Kd.R k93 93 W w.heap.size (fun _ => True) v []
  | 8 => v = .pointer (some ⟨g1, 2, none⟩)
  | 9 => v = .slice A0_2 l0_2.length c0_2
  | 10 => Kd.R k93 93 W w.heap.size (fun _ => True) v l0_2
  | 11 => Kd.R k96 96 W w.heap.size (fun _ => True) v []
  | 12 => v = .pointer (some ⟨g1, 3, none⟩)
  | 13 => v = .slice A0_3 l0_3.length c0_3
  | 14 => Kd.R k96 96 W w.heap.size (fun _ => True) v l0_3
  | 15 => ∃ v0 v1 v2 v3, v = .agg #[v0, v1, v2, v3] ∧ Kd.R (Kd.int .i64) 3 W w.heap.size (fun _ => True) v0 t ∧ Kd.R k90 90 W w.heap.size (fun _ => True) v1 l0_1 ∧ Kd.R k93 93 W w.heap.size (fun _ => True) v2 l0_2 ∧ Kd.R k96 96 W w.heap.size (fun _ => True) v3 l0_3
  | _ => True
set_option maxHeartbeats 8000000 in
set_option maxRecDepth 100000 in
theorem impl_copyState.calls (A0_0 : Option Addr) (c0_0 : Nat) (l0_0 : List (Int)) (A0_1 : Option Addr) (c0_1 : Nat) (l0_1 : List (S90)) (A0_2 : Option Addr) (c0_2 : Nat) (l0_2 : List (S93)) (A0_3 : Option Addr) (c0_3 : Nat) (l0_3 : List (S96)) (r1 : List (Int)) (r2 : List (S90)) (r3 : List (S93)) (r4 : List (S96)) (w : World) (hr0_0 : Kd.C (Kd.int .i64) w A0_0 l0_0.length l0_0) (hc0_0 : l0_0.length ≤ c0_0) (hr0_1 : Kd.C k90 w A0_1 l0_1.length l0_1) (hc0_1 : l0_1.length ≤ c0_1) (hr0_2 : Kd.C k93 w A0_2 l0_2.length l0_2) (hc0_2 : l0_2.length ≤ c0_2) (hr0_3 : Kd.C k96 w A0_3 l0_3.length l0_3) (hc0_3 : l0_3.length ≤ c0_3) (h : impl_copyState.f l0_0 l0_1 l0_2 l0_3 = some (r1, r2, r3, r4)) :
  Calls Tryz.prog 30 #[.agg #[.slice A0_0 l0_0.length c0_0, .slice A0_1 l0_1.length c0_1, .slice A0_2 l0_2.length c0_2, .slice A0_3 l0_3.length c0_3]] w fun e w' => ∃ v0_ v1_ v2_ v3_ : Value, e = .returned (.agg #[v0_, v1_, v2_, v3_]) ∧ Kd.R (Kd.int .i64) 3 w' w.heap.size (fun _ => True) v0_ r1 ∧ Kd.R k90 90 w' w.heap.size (fun _ => True) v1_ r2 ∧ Kd.R k93 93 w' w.heap.size (fun _ => True) v2_ r3 ∧ Kd.R k96 96 w' w.heap.size (fun _ => True) v3_ r4 ∧ Below w.heap.size w w' := by
 have hu35 := Tryz.underlying35
 have HR0 := Aside0.mk hr0_0
 have HC0 := Aside0.mk hc0_0
 have HR1 := Aside0.mk hr0_1
 have HC1 := Aside0.mk hc0_1
 have HR2 := Aside0.mk hr0_2
 have HC2 := Aside0.mk hc0_2
 have HR3 := Aside0.mk hr0_3
 have HC3 := Aside0.mk hc0_3
 have HB := Aside0.mk (Below.refl w.heap.size w)
 unfold impl_copyState.f at h
 replace h := bind_o h
 obtain ⟨t, AT, h⟩ := h
 by_cases c1 : l0_1.length < 4398046511104
 rotate_left
 · rw [if_neg c1] at h
   cases h
 rw [if_pos c1] at h
 by_cases c2 : l0_2.length < 2199023255552
 rotate_left
 · rw [if_neg c2] at h
   cases h
 rw [if_pos c2] at h
 by_cases c3 : l0_3.length < 1954687338268
 rotate_left
 · rw [if_neg c3] at h
   cases h
 rw [if_pos c3] at h
 obtain ⟨rfl, rfl, rfl, rfl⟩ : _ ∧ _ ∧ _ ∧ _ := by simpa only [Option.some.injEq, Prod.mk.injEq] using h
 clear h hr0_0 hc0_0 hr0_1 hc0_1 hr0_2 hc0_2 hr0_3 hc0_3
 go_enter Tryz.func30, Tryz.ntmps30
 go_wp2_with (first
  | ((with_reducible refine gate_dst (N := 1) rfl ?_); refine bx_ (N := 1) ?_; intro g1 hg w1 hbox hb; have BK1 := Aside0.mk hbox; replace HB := Aside0.mk (below_step HB.out hb); clear hb hbox hg)
  | ((with_reducible refine gate_dst (N := 2) rfl ?_); refine bx_ (N := 2) ?_; intro g2 hg w2 hbox hb; have GE2 := Aside0.mk (Nat.le_trans HB.out.size (Nat.le_of_eq hg.symm)); replace BK1 := Aside0.mk (blk_below BK1.out hb); have BK2 := Aside0.mk hbox; replace HB := Aside0.mk (below_step HB.out hb); clear hb hbox hg)
  )
 refine free_ (z := 16) (lo := 3) (w0 := w) (N := fun i => i + 3) (con := fun i => [16, 16, 16, 6, 16, 16, 16, 10, 16, 16, 16, 14, 16, 16, 16, 16].getD i 16) (ty := fun i => impl_copyState.ty.getD i []) (ch := fun i => impl_copyState.ch.getD i []) (R := impl_copyState.R w g1 A0_0 c0_0 l0_0 A0_1 c0_1 l0_1 A0_2 c0_2 l0_2 A0_3 c0_3 l0_3 t) (X := fun W => Below w.heap.size w W ∧ W.heap[g1]? = some (.cells #[.slice A0_0 l0_0.length c0_0, .slice A0_1 l0_1.length c0_1, .slice A0_2 l0_2.length c0_2, .slice A0_3 l0_3.length c0_3] 35 (0, 0)) ∧ W.heap[g2]? = some (.cells #[.slice none 0 0, .slice none 0 0, .slice none 0 0, .slice none 0 0] 35 (0, 0))) ?hX0 ?hX ?hst ?hs ?he ?hf impl_copyState.tab1 impl_copyState.bits1 (by kernel_rfl) (by kernel_rfl)
 case hX0 => exact ⟨below_drew HB.out, blk_drew BK1.out, blk_drew BK2.out⟩
 case hX =>
  intro i W W' hi h hc
  have h36 : 35 ∉ impl_copyState.ch.getD i [] := (by decide : ∀ i, i < 16 → 35 ∉ impl_copyState.ch.getD i []) i hi
  exact ⟨hc.1 h.1, hc.2 _ _ _ h.2.1 h36, hc.2 _ _ _ h.2.2 h36⟩
 case hf => kernel_rfl
 case hst =>
  intro j v W W' es hr hc hd
  match j, hr with
  | 0, hr => exact hr
  | 1, hr => exact hr
  | 2, hr => exact hc.R hr (fun q hq hm => hd q hm hq)
  | 3, hr => exact hc.R hr (fun q hq hm => hd q hm hq)
  | 4, hr => exact hr
  | 5, hr => exact hr
  | 6, hr => exact hc.R hr (fun q hq hm => hd q hm hq)
  | 7, hr => exact hc.R hr (fun q hq hm => hd q hm hq)
  | 8, hr => exact hr
  | 9, hr => exact hr
  | 10, hr => exact hc.R hr (fun q hq hm => hd q hm hq)
  | 11, hr => exact hc.R hr (fun q hq hm => hd q hm hq)
  | 12, hr => exact hr
  | 13, hr => exact hr
  | 14, hr => exact hc.R hr (fun q hq hm => hd q hm hq)
  | 15, hr =>
   obtain ⟨v0, v1, v2, v3, e, h0, h1, h2, h3⟩ := hr
   exact ⟨v0, v1, v2, v3, e, hc.R h0 (fun q hq hm => hd q hm (by obtain rfl := List.mem_singleton.1 hq; decide)), hc.R h1 (fun q hq hm => hd q hm (by obtain rfl := List.mem_singleton.1 hq; decide)), hc.R h2 (fun q hq hm => hd q hm (by obtain rfl := List.mem_singleton.1 hq; decide)), hc.R h3 (fun q hq hm => hd q hm (by obtain rfl := List.mem_singleton.1 hq; decide))⟩
  | j + 16, hr => exact hr
 case hs =>
  intro i hi a W hX hlo hR
  have e1 : a.tmps[1]? = some (.pointer (some ⟨g1, 0, none⟩)) := hlo 1 (by decide)
  match i, hi, hR with
  | 0, _, hR =>
   exact ⟨_, rfl, rfl, fun K hK => fp_ (N := 3) (v := .pointer (some ⟨g1, 0, none⟩)) (by simp only [execOp, ev_ e1]; first | (go_simp; done) | (go_simp; rfl)) (hK _ _ rfl Ch.same)⟩
  | 1, _, hR =>
   obtain ⟨x, qx, rx⟩ := hR 0 (by decide) (by decide) (by decide)
   obtain rfl : x = .pointer (some ⟨g1, 0, none⟩) := rx
   have hc_ := bc4 hX.2.1
   exact ⟨_, rfl, rfl, fun K hK => fp_ (N := 4) (v := .slice A0_0 l0_0.length c0_0) (by simp only [execOp, ev_ qx]; first | (go_simp; done) | (go_simp; rfl)) (hK _ _ rfl Ch.same)⟩
  | 2, _, hR =>
   obtain ⟨x, qx, rx⟩ := hR 1 (by decide) (by decide) (by decide)
   obtain rfl : x = .slice A0_0 l0_0.length c0_0 := rx
   refine ⟨_, rfl, rfl, fun K hK => goes_ Tryz.func56 (by kernel_rfl) rfl #[.slice A0_0 l0_0.length c0_0] rfl rfl rfl (by simp only [List.map_toArray, List.map_cons, List.map_nil, ev_ qx]) ((impl_copyInts.calls _ _ _ _ _ (Kd.C_below HR0.out hX.1) HC0.out AT.out).mono ?_)⟩
   rintro e w' ⟨v0, rfl, ho, hb⟩
   exact ⟨_, rfl, hK _ _ (Kd.R_lower ho hX.1.size) ⟨fun h => below_step h hb, fun j cs t hj _ => blk_below hj hb⟩⟩
  | 3, _, hR =>
   exact ⟨_, rfl, rfl, fun K hK => fl_ (N := 6) (fun v W' h hc => hK v W' h hc) hX.1⟩
  | 4, _, hR =>
   exact ⟨_, rfl, rfl, fun K hK => fp_ (N := 7) (v := .pointer (some ⟨g1, 1, none⟩)) (by simp only [execOp, ev_ e1]; first | (go_simp; done) | (go_simp; rfl)) (hK _ _ rfl Ch.same)⟩
  | 5, _, hR =>
   obtain ⟨x, qx, rx⟩ := hR 4 (by decide) (by decide) (by decide)
   obtain rfl : x = .pointer (some ⟨g1, 1, none⟩) := rx
   have hc_ := bc4 hX.2.1
   exact ⟨_, rfl, rfl, fun K hK => fp_ (N := 8) (v := .slice A0_1 l0_1.length c0_1) (by simp only [execOp, ev_ qx]; first | (go_simp; done) | (go_simp; rfl)) (hK _ _ rfl Ch.same)⟩
  | 6, _, hR =>
   obtain ⟨x, qx, rx⟩ := hR 3 (by decide) (by decide) (by decide)
   obtain ⟨y, qy, ry⟩ := hR 5 (by decide) (by decide) (by decide)
   obtain rfl : y = .slice A0_1 l0_1.length c0_1 := ry
   exact ⟨_, rfl, rfl, fun K hK => fa_ (d := k90) (e := 90) (bytes := 32) (z := (.agg #[(.string ⟨#[]⟩), (.int .i64 0), (.int .i64 0)])) rx (Kd.C_below HR1.out hX.1) hX.1 (ev_ qx) (ev_ qy) (by simp only [List.length_nil]; omega) (fun v W' h hc => hK v W' h hc) (fun _ _ base ok x ds h => by obtain rfl := k90_open h; exact k90_mkM _ _ _ x) Tryz.underlying31 info90⟩
  | 7, _, hR =>
   exact ⟨_, rfl, rfl, fun K hK => fl_ (N := 10) (fun v W' h hc => hK v W' h hc) hX.1⟩
  | 8, _, hR =>
   exact ⟨_, rfl, rfl, fun K hK => fp_ (N := 11) (v := .pointer (some ⟨g1, 2, none⟩)) (by simp only [execOp, ev_ e1]; first | (go_simp; done) | (go_simp; rfl)) (hK _ _ rfl Ch.same)⟩
  | 9, _, hR =>
   obtain ⟨x, qx, rx⟩ := hR 8 (by decide) (by decide) (by decide)
   obtain rfl : x = .pointer (some ⟨g1, 2, none⟩) := rx
   have hc_ := bc4 hX.2.1
   exact ⟨_, rfl, rfl, fun K hK => fp_ (N := 12) (v := .slice A0_2 l0_2.length c0_2) (by simp only [execOp, ev_ qx]; first | (go_simp; done) | (go_simp; rfl)) (hK _ _ rfl Ch.same)⟩
  | 10, _, hR =>
   obtain ⟨x, qx, rx⟩ := hR 7 (by decide) (by decide) (by decide)
   obtain ⟨y, qy, ry⟩ := hR 9 (by decide) (by decide) (by decide)
   obtain rfl : y = .slice A0_2 l0_2.length c0_2 := ry
   exact ⟨_, rfl, rfl, fun K hK => fa_ (d := k93) (e := 93) (bytes := 64) (z := (.agg #[(.bool false), (.string ⟨#[]⟩), (.string ⟨#[]⟩), (.int .i64 0), (.int .i64 0), (.int .i64 0)])) rx (Kd.C_below HR2.out hX.1) hX.1 (ev_ qx) (ev_ qy) (by simp only [List.length_nil]; omega) (fun v W' h hc => hK v W' h hc) (fun _ _ base ok x ds h => by obtain rfl := k93_open h; exact k93_mkM _ _ _ x) Tryz.underlying32 info93⟩
  | 11, _, hR =>
   exact ⟨_, rfl, rfl, fun K hK => fl_ (N := 14) (fun v W' h hc => hK v W' h hc) hX.1⟩
  | 12, _, hR =>
   exact ⟨_, rfl, rfl, fun K hK => fp_ (N := 15) (v := .pointer (some ⟨g1, 3, none⟩)) (by simp only [execOp, ev_ e1]; first | (go_simp; done) | (go_simp; rfl)) (hK _ _ rfl Ch.same)⟩
  | 13, _, hR =>
   obtain ⟨x, qx, rx⟩ := hR 12 (by decide) (by decide) (by decide)
   obtain rfl : x = .pointer (some ⟨g1, 3, none⟩) := rx
   have hc_ := bc4 hX.2.1
   exact ⟨_, rfl, rfl, fun K hK => fp_ (N := 16) (v := .slice A0_3 l0_3.length c0_3) (by simp only [execOp, ev_ qx]; first | (go_simp; done) | (go_simp; rfl)) (hK _ _ rfl Ch.same)⟩
  | 14, _, hR =>
   obtain ⟨x, qx, rx⟩ := hR 11 (by decide) (by decide) (by decide)
   obtain ⟨y, qy, ry⟩ := hR 13 (by decide) (by decide) (by decide)
   obtain rfl : y = .slice A0_3 l0_3.length c0_3 := ry
   exact ⟨_, rfl, rfl, fun K hK => fa_ (d := k96) (e := 96) (bytes := 72) (z := (.agg #[(.string ⟨#[]⟩), (.int .i64 0), (.int .i64 0), (.int .i64 0), (.int .i64 0), (.int .i64 0), (.int .i64 0), (.bool false)])) rx (Kd.C_below HR3.out hX.1) hX.1 (ev_ qx) (ev_ qy) (by simp only [List.length_nil]; omega) (fun v W' h hc => hK v W' h hc) (fun _ _ base ok x ds h => by obtain rfl := k96_open h; exact k96_mkM _ _ _ x) Tryz.underlying33 info96⟩
  | 15, _, hR =>
   obtain ⟨x0, qx0, rx0⟩ := hR 2 (by decide) (by decide) (by decide)
   obtain ⟨B0, b0, rfl⟩ := Kd.R_slice rx0
   obtain ⟨x1, qx1, rx1⟩ := hR 6 (by decide) (by decide) (by decide)
   obtain ⟨B1, b1, rfl⟩ := Kd.R_slice rx1
   obtain ⟨x2, qx2, rx2⟩ := hR 10 (by decide) (by decide) (by decide)
   obtain ⟨B2, b2, rfl⟩ := Kd.R_slice rx2
   obtain ⟨x3, qx3, rx3⟩ := hR 14 (by decide) (by decide) (by decide)
   obtain ⟨B3, b3, rfl⟩ := Kd.R_slice rx3
   exact ⟨_, rfl, rfl, fun K hK => fp_ (N := 18) (v := .agg #[.slice B0 _ b0, .slice B1 _ b1, .slice B2 _ b2, .slice B3 _ b3]) (by simp only [execOp, List.map_toArray, List.map_cons, List.map_nil, ev_ qx0, ev_ qx1, ev_ qx2, ev_ qx3]; first | (go_simp; done) | (go_simp; rfl)) (hK _ _ ⟨_, _, _, _, rfl, rx0, rx1, rx2, rx3⟩ Ch.same)⟩
  | i + 16, h, _ => exact absurd h (by omega)
 intro a W hX hdf hlo hR
 obtain ⟨x, qx, v0, v1, v2, v3, rfl, h0, h1, h2, h3⟩ := hR 15 (by decide) rfl
 have e2 : a.tmps[2]? = some (.pointer (some ⟨g2, 0, none⟩)) := hlo 2 (by decide)
 refine ⟨_, rfl, fun K hK => fz_ hX.2.2 ⟨(Kd.R_val h0).2, (Kd.R_val h1).2, (Kd.R_val h2).2, (Kd.R_val h3).2⟩ (ev_ e2) (ev_ qx) (hK _ _ ?_)⟩
 go_wp2
 refine bodyPost_ret (results_cell_row rfl _ _ g2 35 _ (0, 0) _ (getD_of e2) (setCells_all hX.2.2 rfl) hu35 rfl rfl) hdf ?_
 exact ⟨_, _, _, _, rfl, R_sets4 h0 hX.2.2 (by decide), R_sets4 h1 hX.2.2 (by decide), R_sets4 h2 hX.2.2 (by decide), R_sets4 h3 hX.2.2 (by decide), below_sets hX.1 GE2.out⟩
def impl_within.f (a0 : Int) (a1 : Int) (a2 : Int) : Option (Bool) := if a0 ≥ a1 then (some (decide (a0 ≤ a2))) else (some false)
set_option maxHeartbeats 8000000 in
set_option maxRecDepth 100000 in
theorem impl_within.calls (a0 : Int) (a1 : Int) (a2 : Int) (r : Bool) (w : World) (h : impl_within.f a0 a1 a2 = some r) :
  Calls Tryz.prog 89 #[.int .i64 a0, .int .i64 a1, .int .i64 a2] w fun e w' => e = .returned (.bool r) ∧ Drawn0 w w' := by
 have H : (if a0 ≥ a1 then (some (decide (a0 ≤ a2))) else (some false)) = some r := h
 clear h
 by_cases c4 : a0 ≥ a1
 ·
  rw [if_pos c4] at H
  have c4b0 : decide (a1 ≤ a0) = true := decide_eq_true c4
  clear c4
  obtain rfl := Option.some.inj H
  go_enter Tryz.func89, Tryz.ntmps89
  go_wp2
  go_ret
  exact ⟨z17_13, z17_9⟩
 rw [if_neg c4] at H
 have c4b0 : decide (a1 ≤ a0) = false := decide_eq_false c4
 clear c4
 obtain rfl := Option.some.inj H
 go_enter Tryz.func89, Tryz.ntmps89
 go_wp2
 go_ret
 exact ⟨z17_13, z17_9⟩
def impl_KnowOk.l0 : Nat → List Int → List Int → Int → Int → Option (Bool)
  | 0, _, _, _, _ => none
  | k + 1, x0, x5, x6, x7 => if x7 < x6 then (if 0 ≤ x7 then (if x7 < (x5.length : Int) then ((impl_within.f (rd x5 x7) 0 1000).bind fun t462 => (if t462 = true then (impl_KnowOk.l0 k x0 x5 x6 (wrap64 (x7 + 1))) else (some false))) else (none)) else (none)) else (some ((x0.length : Int) == 3))
def impl_KnowOk.f (k : Nat) (l0 : List Int) : Option (Bool) := impl_KnowOk.l0 k l0 l0 (l0.length : Int) 0
set_option maxHeartbeats 8000000 in
set_option maxRecDepth 100000 in
theorem impl_KnowOk.calls (k : Nat) (A0 : Option Addr) (c0 : Nat) (l0 : List Int) (r : Bool) (w : World) (hr0 : Kd.C (Kd.int .i64) w A0 l0.length l0) (hc0 : l0.length ≤ c0) (h : impl_KnowOk.f k l0 = some r) :
  Calls Tryz.prog 83 #[.slice A0 l0.length c0] w fun e w' => e = .returned (.bool r) ∧ Drawn0 w w' := by
 have HR0 := Aside0.mk hr0
 have HC0 := Aside0.mk hc0
 clear hr0 hc0
 have H := h
 unfold impl_KnowOk.f at H
 clear h
 have H' := Aside0.mk H
 clear H
 go_enter Tryz.func83, Tryz.ntmps83
 go_wp2
 go_loopg [7] k (fun kq v7 w' => ∃ (x7_1 : Int), v7 = .int .i64 x7_1 ∧ Aside0 (impl_KnowOk.l0 kq l0 l0 (l0.length : Int) x7_1 = some r) ∧ Aside0 (kq ≤ k) ∧ Drawn0 w w')
 case atStart => exact ⟨(0), z17_13, H', ⟨Nat.le_refl _⟩, z17_9⟩
 case round =>
  clear H'
  obtain ⟨x7_1, rfl, HA, HK1, ⟨m1, rfl⟩⟩ := hrel
  cases gk with
  | zero => exact absurd HA.out (by simp [impl_KnowOk.l0])
  | succ k1 =>
   have H := HA.out
   clear HA
   simp only [impl_KnowOk.l0] at H
   by_cases c2 : x7_1 < (l0.length : Int)
   rotate_left
   ·
    rw [if_neg c2] at H
    have c2b0 : decide (x7_1 < (l0.length : Int)) = false := decide_eq_false c2
    clear c2
    obtain rfl := Option.some.inj H
    go_wp2
    go_ret
    exact ⟨z17_13, z17_9⟩
   rw [if_pos c2] at H
   have c2b0 : decide (x7_1 < (l0.length : Int)) = true := decide_eq_true c2
   clear c2
   by_cases c3 : 0 ≤ x7_1
   rotate_left
   ·
    rw [if_neg c3] at H
    exact absurd H (by simp)
   rw [if_pos c3] at H
   have c3b0 : decide (0 ≤ x7_1) = true := decide_eq_true c3
   clear c3
   by_cases c4 : x7_1 < (l0.length : Int)
   rotate_left
   ·
    rw [if_neg c4] at H
    exact absurd H (by simp)
   rw [if_pos c4] at H
   have c4b0 : decide (x7_1 < (l0.length : Int)) = true := decide_eq_true c4
   clear c4
   replace H := Option.bind_eq_some_iff.mp H
   obtain ⟨t462, A50, H⟩ := H
   (try dsimp only at H)
   have A5 := Aside0.mk A50
   clear A50
   by_cases c6 : t462 = true
   rotate_left
   ·
    replace c6 := Bool.eq_false_iff.mpr c6
    subst c6
    rw [if_neg (show ¬ (false = true) by decide)] at H
    obtain rfl := Option.some.inj H
    have p461 : 0 ≤ (x7_1 : Int) := of_decide_eq_true z17_15
    have q461 : x7_1 < (l0.length : Int) := of_decide_eq_true z17_15
    obtain ⟨ad461, e461, hx461_0⟩ := Kd.at_int HR0.out x7_1 p461 q461
    cases e461
    replace p461 := eq_true p461
    replace q461 := eq_true q461
    go_wp2_with (first | ((with_reducible refine gate_callee (f := 89) rfl ?_); refine goesL_ (some 12) rfl rfl Tryz.func89 z17_3 rfl #[.int .i64 (rd l0 x7_1), .int .i64 0, .int .i64 1000] rfl (by first | rfl | (simp only [List.map_toArray, List.map_cons, List.map_nil]; first | done | rfl)) ?_; (with_reducible refine (impl_within.calls (rd l0 x7_1) 0 1000 false _ A5.out).mono ?_); rintro e w' ⟨rfl, ⟨nd, rfl⟩⟩; refine ⟨_, rfl, ?_⟩))
    go_ret
    exact ⟨z17_13, z17_9⟩
   subst c6
   rw [if_pos rfl] at H
   have H' := Aside0.mk H
   clear H
   have p461 : 0 ≤ (x7_1 : Int) := of_decide_eq_true z17_15
   have q461 : x7_1 < (l0.length : Int) := of_decide_eq_true z17_15
   obtain ⟨ad461, e461, hx461_0⟩ := Kd.at_int HR0.out x7_1 p461 q461
   cases e461
   replace p461 := eq_true p461
   replace q461 := eq_true q461
   go_wp2_with (first | ((with_reducible refine gate_callee (f := 89) rfl ?_); refine goesL_ (some 12) rfl rfl Tryz.func89 z17_3 rfl #[.int .i64 (rd l0 x7_1), .int .i64 0, .int .i64 1000] rfl (by first | rfl | (simp only [List.map_toArray, List.map_cons, List.map_nil]; first | done | rfl)) ?_; (with_reducible refine (impl_within.calls (rd l0 x7_1) 0 1000 true _ A5.out).mono ?_); rintro e w' ⟨rfl, ⟨nd, rfl⟩⟩; refine ⟨_, rfl, ?_⟩))
   go_roundg k1
   case measure => have := HK1.out; omega
   case rel => exact ⟨(wrap64 (x7_1 + 1)), z17_13, H', ⟨by have := HK1.out; omega⟩, z17_9⟩
def cmp_Or_int.l0 : Nat → Int → List Int → Int → Int → Option (Int)
  | 0, _, _, _, _ => none
  | k + 1, x3, x6, x7, x8 => if x8 < x7 then (if 0 ≤ x8 then (if x8 < (x6.length : Int) then (if (rd x6 x8) = x3 then (cmp_Or_int.l0 k x3 x6 x7 (wrap64 (x8 + 1))) else (some (rd x6 x8))) else (none)) else (none)) else (some x3)
def cmp_Or_int.f (k : Nat) (l0 : List Int) : Option (Int) := cmp_Or_int.l0 k 0 l0 (l0.length : Int) 0
set_option maxHeartbeats 8000000 in
set_option maxRecDepth 100000 in
theorem cmp_Or_int.calls (k : Nat) (A0 : Option Addr) (c0 : Nat) (l0 : List Int) (r : Int) (w : World) (hr0 : Kd.C (Kd.int .i64) w A0 l0.length l0) (hc0 : l0.length ≤ c0) (h : cmp_Or_int.f k l0 = some r) :
  Calls Tryz.prog 102 #[.slice A0 l0.length c0] w fun e w' => e = .returned (.int .i64 r) ∧ Drawn0 w w' := by
 have HR0 := Aside0.mk hr0
 have HC0 := Aside0.mk hc0
 clear hr0 hc0
 have H := h
 unfold cmp_Or_int.f at H
 clear h
 have H' := Aside0.mk H
 clear H
 go_enter Tryz.func102, Tryz.ntmps102
 go_wp2
 go_loopg [8] k (fun kq v8 w' => ∃ (x8_1 : Int), v8 = .int .i64 x8_1 ∧ Aside0 (cmp_Or_int.l0 kq 0 l0 (l0.length : Int) x8_1 = some r) ∧ Aside0 (kq ≤ k) ∧ Drawn0 w w')
 case atStart => exact ⟨(0), z17_13, H', ⟨Nat.le_refl _⟩, z17_9⟩
 case round =>
  clear H'
  try clear c1
  obtain ⟨x8_1, rfl, HA, HK1, ⟨m1, rfl⟩⟩ := hrel
  cases gk with
  | zero => exact absurd HA.out (by simp [cmp_Or_int.l0])
  | succ k1 =>
   have H := HA.out
   clear HA
   simp only [cmp_Or_int.l0] at H
   by_cases c2 : x8_1 < (l0.length : Int)
   rotate_left
   ·
    rw [if_neg c2] at H
    have c2b0 : decide (x8_1 < (l0.length : Int)) = false := decide_eq_false c2
    clear c2
    obtain rfl := Option.some.inj H
    go_wp2
    go_ret
    exact ⟨z17_13, z17_9⟩
   rw [if_pos c2] at H
   have c2b0 : decide (x8_1 < (l0.length : Int)) = true := decide_eq_true c2
   clear c2
   by_cases c3 : 0 ≤ x8_1
   rotate_left
   ·
    rw [if_neg c3] at H
    exact absurd H (by simp)
   rw [if_pos c3] at H
   have c3b0 : decide (0 ≤ x8_1) = true := decide_eq_true c3
   clear c3
   by_cases c4 : x8_1 < (l0.length : Int)
   rotate_left
   ·
    rw [if_neg c4] at H
    exact absurd H (by simp)
   rw [if_pos c4] at H
   have c4b0 : decide (x8_1 < (l0.length : Int)) = true := decide_eq_true c4
   clear c4
   by_cases c5 : (rd l0 x8_1) = 0
   rotate_left
   ·
    rw [if_neg c5] at H
    have c5b0 : ((rd l0 x8_1) == 0) = false := beq_eq_false_iff_ne.mpr c5
    have c5b1 : ((rd l0 x8_1) != 0) = true := bne_iff_ne.mpr c5
    obtain rfl := Option.some.inj H
    have p463 : 0 ≤ (x8_1 : Int) := of_decide_eq_true z17_15
    have q463 : x8_1 < (l0.length : Int) := of_decide_eq_true z17_15
    obtain ⟨ad463, e463, hx463_0⟩ := Kd.at_int HR0.out x8_1 p463 q463
    cases e463
    replace p463 := eq_true p463
    replace q463 := eq_true q463
    go_wp2
    go_ret
    exact ⟨z17_13, z17_9⟩
   rw [if_pos c5] at H
   have c5b0 : ((rd l0 x8_1) == 0) = true := beq_iff_eq.mpr c5
   have c5b1 : ((rd l0 x8_1) != 0) = false := bne_eq_false_iff_eq.mpr c5
   clear c5
   have H' := Aside0.mk H
   clear H
   have p463 : 0 ≤ (x8_1 : Int) := of_decide_eq_true z17_15
   have q463 : x8_1 < (l0.length : Int) := of_decide_eq_true z17_15
   obtain ⟨ad463, e463, hx463_0⟩ := Kd.at_int HR0.out x8_1 p463 q463
   cases e463
   replace p463 := eq_true p463
   replace q463 := eq_true q463
   go_wp2
   go_roundg k1
   case measure => have := HK1.out; omega
   case rel => exact ⟨(wrap64 (x8_1 + 1)), z17_13, H', ⟨by have := HK1.out; omega⟩, z17_9⟩
def cmp_isNaN_string.f (a0 : ByteArray) : Option (Bool) := some (a0.toList != a0.toList)
set_option maxHeartbeats 8000000 in
set_option maxRecDepth 100000 in
theorem cmp_isNaN_string.calls (a0 : ByteArray) (r : Bool) (w : World) (h : cmp_isNaN_string.f a0 = some r) :
  Calls Tryz.prog 105 #[.string a0] w fun e w' => e = .returned (.bool r) ∧ Drawn0 w w' := by
 have H : (some (a0.toList != a0.toList)) = some r := h
 clear h
 obtain rfl := Option.some.inj H
 go_enter Tryz.func105, Tryz.ntmps105
 go_wp2
 go_ret
 exact ⟨z17_13, z17_9⟩
end Go.Proofs.YtbanogkoaplcdaaGreat.QDa
