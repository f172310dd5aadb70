/- Parts of the proof of FnExactDoAll, one behind the other. No condition. -/
import Derived.Test.YtbanogkoaplcdaaGreatVFnExactDoAllM1
import Derived.Test.YtbanogkoaplcdaaGreatVFnExactDoAllM2
namespace Go.Proofs.YtbanogkoaplcdaaGreat.QDa
open Go.RowKit Go.Proofs.YtbanogkoaplcdaaGreat.Reg14 Go.Proofs.YtbanogkoaplcdaaGreat.Reg13 Go.Proofs.YtbanogkoaplcdaaGreat.Reg12 Go.Proofs.YtbanogkoaplcdaaGreat.Reg11 Go.Proofs.YtbanogkoaplcdaaGreat.Reg10 Go.Proofs.YtbanogkoaplcdaaGreat.Reg9 Go.Proofs.YtbanogkoaplcdaaGreat.Lock Go.Proofs.YtbanogkoaplcdaaGreat.Auto Go.Proofs.YtbanogkoaplcdaaGreat.Short Go.Proofs.YtbanogkoaplcdaaGreatW.PrintWords Go.Proofs.YtbanogkoaplcdaaGreatW.PrintLast Go.Proofs.YtbanogkoaplcdaaGreatW.PrintMore
attribute [local go_sem] max2_int min2_int max_two min_two max_three min_three max_four min_four   -- for this text's walks alone
set_option linter.unusedVariables false
set_option linter.unusedSimpArgs false
theorem z3_25 {P : Prop} (h : P := by first | (with_reducible assumption) | assumption) : P := h
theorem z3_24 {P : Prop} (h : P := by repeat (first | (with_reducible first | exact HB.out | apply below_alloc | apply pw_below_drewN | apply below_drew1 | refine below_set ?_ GE147.out) | exact HB.out)) : P := h
theorem z3_23 {P : Prop} (h : P := by first | rfl | (simp [errW_none, errW_some] <;> rfl) | (simp [*, errW_none, errW_some] <;> rfl)) : P := h
theorem z3_22 {P : Prop} (h : P := by first | rfl | (simp; done) | (simp [*]; done)) : P := h
theorem z3_21 {P : Prop} (h : P := by repeat (first | exact Drawn0.refl _ | apply Drawn0.step)) : P := h
theorem z3_20 {P : Prop} (h : P := by first | rfl | (simp only [List.map_toArray, List.map_cons, List.map_nil]; first | done | rfl)) : P := h
theorem z3_5 {P : Prop} (h : P := by repeat (first | (with_reducible first | exact HB.out | apply below_alloc | apply pw_below_drewN | apply below_drew1) | exact HB.out)) : P := h
theorem z3_4 {P : Prop} (h : P := by kernel_rfl) : P := h
def spec_l06Copy.f (l0_0 : List (Int)) (l0_1 : List (S90)) (l0_2 : List (S93)) (l0_3 : List (S96)) : Option (List (Int) × List (S90) × List (S93) × List (S96)) := (if l0_0.length < 17592186044416 then (if l0_1.length < 4398046511104 then (if l0_2.length < 2199023255552 then (if l0_3.length < 1954687338268 then some (l0_0, l0_1, l0_2, l0_3) else none) else none) else none) else none)
def spec_l06Copy.T1 : Bool × List (List Nat × List Nat) := (true, [([], []), ([], []), ([1], [1]), ([0, 2], [0, 2]), ([], []), ([], []), ([5], [5]), ([4, 6, 3], [4, 6]), ([], []), ([], []), ([9], [9]), ([8, 10, 7], [8, 10]), ([], []), ([], []), ([13], [13]), ([12, 14, 11], [12, 14]), ([3, 7, 11, 15], [3, 7, 11, 15]), ([16, 15, 0, 1, 2, 3, 4, 5, 6, 7, 8, 9, 10, 11, 12, 13, 14, 15, 16], [16])])
def spec_l06Copy.B1 : List Nat := [0, 0, 2, 7, 0, 0, 32, 127, 0, 0, 512, 2047, 0, 0, 8192, 32767, 65535, 131071]
theorem spec_l06Copy.tab1 : rtab .any (opsOf Tryz.f23 1) = spec_l06Copy.T1 := by kernel_rfl
theorem spec_l06Copy.bits1 : waitsOk spec_l06Copy.T1.2 spec_l06Copy.B1 = true := by kernel_rfl
def spec_l06Copy.ty : List (List Nat) := [[3], [], [], [3], [90], [], [], [90], [93], [], [], [93], [96], [], [], [96], [3, 90, 93, 96]]
def spec_l06Copy.ch : List (List Nat) := [[], [], [], [3], [], [], [], [90], [], [], [], [93], [], [], [], [96], []]
def spec_l06Copy.R (w : World) (g1 : Nat) (A0_0 : Option Addr) (c0_0 : Nat) (l0_0 : List (Int)) (A0_1 : Option Addr) (c0_1 : Nat) (l0_1 : List (S90)) (A0_2 : Option Addr) (c0_2 : Nat) (l0_2 : List (S93)) (A0_3 : Option Addr) (c0_3 : Nat) (l0_3 : List (S96)) (i : Nat) (v : Value) (W : World) : Prop := match i with
  | 0 => Kd.R (Kd.int .i64) 3 W w.heap.size (fun _ => True) v []
  | 1 => v = .pointer (some ⟨g1, 0, none⟩)
  | 2 => v = .slice A0_0 l0_0.length c0_0
  | 3 => Kd.R (Kd.int .i64) 3 W w.heap.size (fun _ => True) v l0_0
  | 4 => Kd.R k90 90 W w.heap.size (fun _ => True) v []
  | 5 => v = .pointer (some ⟨g1, 1, none⟩)
  | 6 => v = .slice A0_1 l0_1.length c0_1
  | 7 => Kd.R k90 90 W w.heap.size (fun _ => True) v l0_1
  | 8 => Kd.R k93 93 W w.heap.size (fun _ => True) v []
  | 9 => v = .pointer (some ⟨g1, 2, none⟩)
  | 10 => v = .slice A0_2 l0_2.length c0_2
  | 11 => Kd.R k93 93 W w.heap.size (fun _ => True) v l0_2
  | 12 => Kd.R k96 96 W w.heap.size (fun _ => True) v []
  | 13 => v = .pointer (some ⟨g1, 3, none⟩)
  | 14 => v = .slice A0_3 l0_3.length c0_3
  | 15 => Kd.R k96 96 W w.heap.size (fun _ => True) v l0_3
  | 16 => ∃ v0 v1 v2 v3, v = .agg #[v0, v1, v2, v3] ∧ Kd.R (Kd.int .i64) 3 W w.heap.size (fun _ => True) v0 l0_0 ∧ Kd.R k90 90 W w.heap.size (fun _ => True) v1 l0_1 ∧ Kd.R k93 93 W w.heap.size (fun _ => True) v2 l0_2 ∧ Kd.R k96 96 W w.heap.size (fun _ => True) v3 l0_3
  | _ => True
set_option maxHeartbeats 8000000 in
set_option maxRecDepth 100000 in
theorem spec_l06Copy.calls (A0_0 : Option Addr) (c0_0 : Nat) (l0_0 : List (Int)) (A0_1 : Option Addr) (c0_1 : Nat) (l0_1 : List (S90)) (A0_2 : Option Addr) (c0_2 : Nat) (l0_2 : List (S93)) (A0_3 : Option Addr) (c0_3 : Nat) (l0_3 : List (S96)) (r1 : List (Int)) (r2 : List (S90)) (r3 : List (S93)) (r4 : List (S96)) (w : World) (hr0_0 : Kd.C (Kd.int .i64) w A0_0 l0_0.length l0_0) (hc0_0 : l0_0.length ≤ c0_0) (hr0_1 : Kd.C k90 w A0_1 l0_1.length l0_1) (hc0_1 : l0_1.length ≤ c0_1) (hr0_2 : Kd.C k93 w A0_2 l0_2.length l0_2) (hc0_2 : l0_2.length ≤ c0_2) (hr0_3 : Kd.C k96 w A0_3 l0_3.length l0_3) (hc0_3 : l0_3.length ≤ c0_3) (h : spec_l06Copy.f l0_0 l0_1 l0_2 l0_3 = some (r1, r2, r3, r4)) :
  Calls Tryz.prog 23 #[.agg #[.slice A0_0 l0_0.length c0_0, .slice A0_1 l0_1.length c0_1, .slice A0_2 l0_2.length c0_2, .slice A0_3 l0_3.length c0_3]] w fun e w' => ∃ v0_ v1_ v2_ v3_ : Value, e = .returned (.agg #[v0_, v1_, v2_, v3_]) ∧ Kd.R (Kd.int .i64) 3 w' w.heap.size (fun _ => True) v0_ r1 ∧ Kd.R k90 90 w' w.heap.size (fun _ => True) v1_ r2 ∧ Kd.R k93 93 w' w.heap.size (fun _ => True) v2_ r3 ∧ Kd.R k96 96 w' w.heap.size (fun _ => True) v3_ r4 ∧ Below w.heap.size w w' := by
 have hu35 := Tryz.underlying35
 have HR0 := Aside0.mk hr0_0
 have HC0 := Aside0.mk hc0_0
 have HR1 := Aside0.mk hr0_1
 have HC1 := Aside0.mk hc0_1
 have HR2 := Aside0.mk hr0_2
 have HC2 := Aside0.mk hc0_2
 have HR3 := Aside0.mk hr0_3
 have HC3 := Aside0.mk hc0_3
 have HB := Aside0.mk (Below.refl w.heap.size w)
 unfold spec_l06Copy.f at h
 by_cases c0 : l0_0.length < 17592186044416
 rotate_left
 · rw [if_neg c0] at h
   cases h
 rw [if_pos c0] at h
 by_cases c1 : l0_1.length < 4398046511104
 rotate_left
 · rw [if_neg c1] at h
   cases h
 rw [if_pos c1] at h
 by_cases c2 : l0_2.length < 2199023255552
 rotate_left
 · rw [if_neg c2] at h
   cases h
 rw [if_pos c2] at h
 by_cases c3 : l0_3.length < 1954687338268
 rotate_left
 · rw [if_neg c3] at h
   cases h
 rw [if_pos c3] at h
 obtain ⟨rfl, rfl, rfl, rfl⟩ : _ ∧ _ ∧ _ ∧ _ := by simpa only [Option.some.injEq, Prod.mk.injEq] using h
 clear h hr0_0 hc0_0 hr0_1 hc0_1 hr0_2 hc0_2 hr0_3 hc0_3
 go_enter Tryz.func23, Tryz.ntmps23
 go_wp2_with (first
  | ((with_reducible refine gate_dst (N := 1) rfl ?_); refine bx_ (N := 1) ?_; intro g1 hg w1 hbox hb; have BK1 := Aside0.mk hbox; replace HB := Aside0.mk (below_step HB.out hb); clear hb hbox hg)
  | ((with_reducible refine gate_dst (N := 2) rfl ?_); refine bx_ (N := 2) ?_; intro g2 hg w2 hbox hb; have GE2 := Aside0.mk (Nat.le_trans HB.out.size (Nat.le_of_eq hg.symm)); replace BK1 := Aside0.mk (blk_below BK1.out hb); have BK2 := Aside0.mk hbox; replace HB := Aside0.mk (below_step HB.out hb); clear hb hbox hg)
  )
 refine free_ (z := 17) (lo := 3) (w0 := w) (N := fun i => i + 3) (con := fun i => [3, 17, 17, 17, 7, 17, 17, 17, 11, 17, 17, 17, 15, 17, 17, 17, 17].getD i 17) (ty := fun i => spec_l06Copy.ty.getD i []) (ch := fun i => spec_l06Copy.ch.getD i []) (R := spec_l06Copy.R w g1 A0_0 c0_0 l0_0 A0_1 c0_1 l0_1 A0_2 c0_2 l0_2 A0_3 c0_3 l0_3) (X := fun W => Below w.heap.size w W ∧ W.heap[g1]? = some (.cells #[.slice A0_0 l0_0.length c0_0, .slice A0_1 l0_1.length c0_1, .slice A0_2 l0_2.length c0_2, .slice A0_3 l0_3.length c0_3] 35 (0, 0)) ∧ W.heap[g2]? = some (.cells #[.slice none 0 0, .slice none 0 0, .slice none 0 0, .slice none 0 0] 35 (0, 0))) ?hX0 ?hX ?hst ?hs ?he ?hf spec_l06Copy.tab1 spec_l06Copy.bits1 (by kernel_rfl) (by kernel_rfl)
 case hX0 => exact ⟨below_drew HB.out, blk_drew BK1.out, blk_drew BK2.out⟩
 case hX =>
  intro i W W' hi h hc
  have h36 : 35 ∉ spec_l06Copy.ch.getD i [] := (by decide : ∀ i, i < 17 → 35 ∉ spec_l06Copy.ch.getD i []) i hi
  exact ⟨hc.1 h.1, hc.2 _ _ _ h.2.1 h36, hc.2 _ _ _ h.2.2 h36⟩
 case hf => kernel_rfl
 case hst =>
  intro j v W W' es hr hc hd
  match j, hr with
  | 0, hr => exact hc.R hr (fun q hq hm => hd q hm hq)
  | 1, hr => exact hr
  | 2, hr => exact hr
  | 3, hr => exact hc.R hr (fun q hq hm => hd q hm hq)
  | 4, hr => exact hc.R hr (fun q hq hm => hd q hm hq)
  | 5, hr => exact hr
  | 6, hr => exact hr
  | 7, hr => exact hc.R hr (fun q hq hm => hd q hm hq)
  | 8, hr => exact hc.R hr (fun q hq hm => hd q hm hq)
  | 9, hr => exact hr
  | 10, hr => exact hr
  | 11, hr => exact hc.R hr (fun q hq hm => hd q hm hq)
  | 12, hr => exact hc.R hr (fun q hq hm => hd q hm hq)
  | 13, hr => exact hr
  | 14, hr => exact hr
  | 15, hr => exact hc.R hr (fun q hq hm => hd q hm hq)
  | 16, hr =>
   obtain ⟨v0, v1, v2, v3, e, h0, h1, h2, h3⟩ := hr
   exact ⟨v0, v1, v2, v3, e, hc.R h0 (fun q hq hm => hd q hm (by obtain rfl := List.mem_singleton.1 hq; decide)), hc.R h1 (fun q hq hm => hd q hm (by obtain rfl := List.mem_singleton.1 hq; decide)), hc.R h2 (fun q hq hm => hd q hm (by obtain rfl := List.mem_singleton.1 hq; decide)), hc.R h3 (fun q hq hm => hd q hm (by obtain rfl := List.mem_singleton.1 hq; decide))⟩
  | j + 17, hr => exact hr
 case hs =>
  intro i hi a W hX hlo hR
  have e1 : a.tmps[1]? = some (.pointer (some ⟨g1, 0, none⟩)) := hlo 1 (by decide)
  match i, hi, hR with
  | 0, _, hR =>
   exact ⟨_, rfl, rfl, fun K hK => fl_ (N := 3) (fun v W' h hc => hK v W' h hc) hX.1⟩
  | 1, _, hR =>
   exact ⟨_, rfl, rfl, fun K hK => fp_ (N := 4) (v := .pointer (some ⟨g1, 0, none⟩)) (by simp only [execOp, ev_ e1]; first | (go_simp; done) | (go_simp; rfl)) (hK _ _ rfl Ch.same)⟩
  | 2, _, hR =>
   obtain ⟨x, qx, rx⟩ := hR 1 (by decide) (by decide) (by decide)
   obtain rfl : x = .pointer (some ⟨g1, 0, none⟩) := rx
   have hc_ := bc4 hX.2.1
   exact ⟨_, rfl, rfl, fun K hK => fp_ (N := 5) (v := .slice A0_0 l0_0.length c0_0) (by simp only [execOp, ev_ qx]; first | (go_simp; done) | (go_simp; rfl)) (hK _ _ rfl Ch.same)⟩
  | 3, _, hR =>
   obtain ⟨x, qx, rx⟩ := hR 0 (by decide) (by decide) (by decide)
   obtain ⟨y, qy, ry⟩ := hR 2 (by decide) (by decide) (by decide)
   obtain rfl : y = .slice A0_0 l0_0.length c0_0 := ry
   exact ⟨_, rfl, rfl, fun K hK => fa_ (d := (Kd.int .i64)) (e := 3) (bytes := 8) (z := (.int .i64 0)) rx (Kd.C_below HR0.out hX.1) hX.1 (ev_ qx) (ev_ qy) (by simp only [List.length_nil]; omega) (fun v W' h hc => hK v W' h hc) (fun _ _ _ _ _ _ h => h) Tryz.underlying22 info3⟩
  | 4, _, hR =>
   exact ⟨_, rfl, rfl, fun K hK => fl_ (N := 7) (fun v W' h hc => hK v W' h hc) hX.1⟩
  | 5, _, hR =>
   exact ⟨_, rfl, rfl, fun K hK => fp_ (N := 8) (v := .pointer (some ⟨g1, 1, none⟩)) (by simp only [execOp, ev_ e1]; first | (go_simp; done) | (go_simp; rfl)) (hK _ _ rfl Ch.same)⟩
  | 6, _, hR =>
   obtain ⟨x, qx, rx⟩ := hR 5 (by decide) (by decide) (by decide)
   obtain rfl : x = .pointer (some ⟨g1, 1, none⟩) := rx
   have hc_ := bc4 hX.2.1
   exact ⟨_, rfl, rfl, fun K hK => fp_ (N := 9) (v := .slice A0_1 l0_1.length c0_1) (by simp only [execOp, ev_ qx]; first | (go_simp; done) | (go_simp; rfl)) (hK _ _ rfl Ch.same)⟩
  | 7, _, hR =>
   obtain ⟨x, qx, rx⟩ := hR 4 (by decide) (by decide) (by decide)
   obtain ⟨y, qy, ry⟩ := hR 6 (by decide) (by decide) (by decide)
   obtain rfl : y = .slice A0_1 l0_1.length c0_1 := ry
   exact ⟨_, rfl, rfl, fun K hK => fa_ (d := k90) (e := 90) (bytes := 32) (z := (.agg #[(.string ⟨#[]⟩), (.int .i64 0), (.int .i64 0)])) rx (Kd.C_below HR1.out hX.1) hX.1 (ev_ qx) (ev_ qy) (by simp only [List.length_nil]; omega) (fun v W' h hc => hK v W' h hc) (fun _ _ base ok x ds h => by obtain rfl := k90_open h; exact k90_mkM _ _ _ x) Tryz.underlying31 info90⟩
  | 8, _, hR =>
   exact ⟨_, rfl, rfl, fun K hK => fl_ (N := 11) (fun v W' h hc => hK v W' h hc) hX.1⟩
  | 9, _, hR =>
   exact ⟨_, rfl, rfl, fun K hK => fp_ (N := 12) (v := .pointer (some ⟨g1, 2, none⟩)) (by simp only [execOp, ev_ e1]; first | (go_simp; done) | (go_simp; rfl)) (hK _ _ rfl Ch.same)⟩
  | 10, _, hR =>
   obtain ⟨x, qx, rx⟩ := hR 9 (by decide) (by decide) (by decide)
   obtain rfl : x = .pointer (some ⟨g1, 2, none⟩) := rx
   have hc_ := bc4 hX.2.1
   exact ⟨_, rfl, rfl, fun K hK => fp_ (N := 13) (v := .slice A0_2 l0_2.length c0_2) (by simp only [execOp, ev_ qx]; first | (go_simp; done) | (go_simp; rfl)) (hK _ _ rfl Ch.same)⟩
  | 11, _, hR =>
   obtain ⟨x, qx, rx⟩ := hR 8 (by decide) (by decide) (by decide)
   obtain ⟨y, qy, ry⟩ := hR 10 (by decide) (by decide) (by decide)
   obtain rfl : y = .slice A0_2 l0_2.length c0_2 := ry
   exact ⟨_, rfl, rfl, fun K hK => fa_ (d := k93) (e := 93) (bytes := 64) (z := (.agg #[(.bool false), (.string ⟨#[]⟩), (.string ⟨#[]⟩), (.int .i64 0), (.int .i64 0), (.int .i64 0)])) rx (Kd.C_below HR2.out hX.1) hX.1 (ev_ qx) (ev_ qy) (by simp only [List.length_nil]; omega) (fun v W' h hc => hK v W' h hc) (fun _ _ base ok x ds h => by obtain rfl := k93_open h; exact k93_mkM _ _ _ x) Tryz.underlying32 info93⟩
  | 12, _, hR =>
   exact ⟨_, rfl, rfl, fun K hK => fl_ (N := 15) (fun v W' h hc => hK v W' h hc) hX.1⟩
  | 13, _, hR =>
   exact ⟨_, rfl, rfl, fun K hK => fp_ (N := 16) (v := .pointer (some ⟨g1, 3, none⟩)) (by simp only [execOp, ev_ e1]; first | (go_simp; done) | (go_simp; rfl)) (hK _ _ rfl Ch.same)⟩
  | 14, _, hR =>
   obtain ⟨x, qx, rx⟩ := hR 13 (by decide) (by decide) (by decide)
   obtain rfl : x = .pointer (some ⟨g1, 3, none⟩) := rx
   have hc_ := bc4 hX.2.1
   exact ⟨_, rfl, rfl, fun K hK => fp_ (N := 17) (v := .slice A0_3 l0_3.length c0_3) (by simp only [execOp, ev_ qx]; first | (go_simp; done) | (go_simp; rfl)) (hK _ _ rfl Ch.same)⟩
  | 15, _, hR =>
   obtain ⟨x, qx, rx⟩ := hR 12 (by decide) (by decide) (by decide)
   obtain ⟨y, qy, ry⟩ := hR 14 (by decide) (by decide) (by decide)
   obtain rfl : y = .slice A0_3 l0_3.length c0_3 := ry
   exact ⟨_, rfl, rfl, fun K hK => fa_ (d := k96) (e := 96) (bytes := 72) (z := (.agg #[(.string ⟨#[]⟩), (.int .i64 0), (.int .i64 0), (.int .i64 0), (.int .i64 0), (.int .i64 0), (.int .i64 0), (.bool false)])) rx (Kd.C_below HR3.out hX.1) hX.1 (ev_ qx) (ev_ qy) (by simp only [List.length_nil]; omega) (fun v W' h hc => hK v W' h hc) (fun _ _ base ok x ds h => by obtain rfl := k96_open h; exact k96_mkM _ _ _ x) Tryz.underlying33 info96⟩
  | 16, _, hR =>
   obtain ⟨x0, qx0, rx0⟩ := hR 3 (by decide) (by decide) (by decide)
   obtain ⟨B0, b0, rfl⟩ := Kd.R_slice rx0
   obtain ⟨x1, qx1, rx1⟩ := hR 7 (by decide) (by decide) (by decide)
   obtain ⟨B1, b1, rfl⟩ := Kd.R_slice rx1
   obtain ⟨x2, qx2, rx2⟩ := hR 11 (by decide) (by decide) (by decide)
   obtain ⟨B2, b2, rfl⟩ := Kd.R_slice rx2
   obtain ⟨x3, qx3, rx3⟩ := hR 15 (by decide) (by decide) (by decide)
   obtain ⟨B3, b3, rfl⟩ := Kd.R_slice rx3
   exact ⟨_, rfl, rfl, fun K hK => fp_ (N := 19) (v := .agg #[.slice B0 _ b0, .slice B1 _ b1, .slice B2 _ b2, .slice B3 _ b3]) (by simp only [execOp, List.map_toArray, List.map_cons, List.map_nil, ev_ qx0, ev_ qx1, ev_ qx2, ev_ qx3]; first | (go_simp; done) | (go_simp; rfl)) (hK _ _ ⟨_, _, _, _, rfl, rx0, rx1, rx2, rx3⟩ Ch.same)⟩
  | i + 17, h, _ => exact absurd h (by omega)
 intro a W hX hdf hlo hR
 obtain ⟨x, qx, v0, v1, v2, v3, rfl, h0, h1, h2, h3⟩ := hR 16 (by decide) rfl
 have e2 : a.tmps[2]? = some (.pointer (some ⟨g2, 0, none⟩)) := hlo 2 (by decide)
 refine ⟨_, rfl, fun K hK => fz_ hX.2.2 ⟨(Kd.R_val h0).2, (Kd.R_val h1).2, (Kd.R_val h2).2, (Kd.R_val h3).2⟩ (ev_ e2) (ev_ qx) (hK _ _ ?_)⟩
 go_wp2
 refine bodyPost_ret (results_cell_row rfl _ _ g2 35 _ (0, 0) _ (getD_of e2) (setCells_all hX.2.2 rfl) hu35 rfl rfl) hdf ?_
 exact ⟨_, _, _, _, rfl, R_sets4 h0 hX.2.2 (by decide), R_sets4 h1 hX.2.2 (by decide), R_sets4 h2 hX.2.2 (by decide), R_sets4 h3 hX.2.2 (by decide), below_sets hX.1 GE2.out⟩
def spec_l01In.f (a0 : Int) (a1 : Int) (a2 : Int) : Option (Bool) := if a0 ≥ a1 then (some (decide (a0 ≤ a2))) else (some false)
set_option maxHeartbeats 8000000 in
set_option maxRecDepth 100000 in
theorem spec_l01In.calls (a0 : Int) (a1 : Int) (a2 : Int) (r : Bool) (w : World) (h : spec_l01In.f a0 a1 a2 = some r) :
  Calls Tryz.prog 77 #[.int .i64 a0, .int .i64 a1, .int .i64 a2] w fun e w' => e = .returned (.bool r) ∧ Drawn0 w w' := by
 have H : (if a0 ≥ a1 then (some (decide (a0 ≤ a2))) else (some false)) = some r := h
 clear h
 by_cases c4 : a0 ≥ a1
 ·
  rw [if_pos c4] at H
  have c4b0 : decide (a1 ≤ a0) = true := decide_eq_true c4
  clear c4
  obtain rfl := Option.some.inj H
  go_enter Tryz.func77, Tryz.ntmps77
  go_wp2
  go_ret
  exact ⟨z3_22, z3_21⟩
 rw [if_neg c4] at H
 have c4b0 : decide (a1 ≤ a0) = false := decide_eq_false c4
 clear c4
 obtain rfl := Option.some.inj H
 go_enter Tryz.func77, Tryz.ntmps77
 go_wp2
 go_ret
 exact ⟨z3_22, z3_21⟩
def spec_KnowOk.l0 : Nat → List Int → Int → Option (Bool)
  | 0, _, _ => none
  | k + 1, x0, x3 => if x3 < (x0.length : Int) then (if 0 ≤ x3 then ((spec_l01In.f (rd x0 x3) 0 1000).bind fun t146 => (if t146 = true then (spec_KnowOk.l0 k x0 (wrap64 (x3 + 1))) else (some false))) else (none)) else (some ((x0.length : Int) == 3))
def spec_KnowOk.f (k : Nat) (l0 : List Int) : Option (Bool) := spec_KnowOk.l0 k l0 0
set_option maxHeartbeats 8000000 in
set_option maxRecDepth 100000 in
theorem spec_KnowOk.calls (k : Nat) (A0 : Option Addr) (c0 : Nat) (l0 : List Int) (r : Bool) (w : World) (hr0 : Kd.C (Kd.int .i64) w A0 l0.length l0) (hc0 : l0.length ≤ c0) (h : spec_KnowOk.f k l0 = some r) :
  Calls Tryz.prog 71 #[.slice A0 l0.length c0] w fun e w' => e = .returned (.bool r) ∧ Drawn0 w w' := by
 have HR0 := Aside0.mk hr0
 have HC0 := Aside0.mk hc0
 clear hr0 hc0
 have H : (spec_KnowOk.l0 k l0 0) = some r := h
 clear h
 have H' := Aside0.mk H
 clear H
 go_enter Tryz.func71, Tryz.ntmps71
 go_wp2
 go_loopg [3] k (fun kq v3 w' => ∃ (x3_1 : Int), v3 = .int .i64 x3_1 ∧ Aside0 (spec_KnowOk.l0 kq l0 x3_1 = some r) ∧ Aside0 (kq ≤ k) ∧ Drawn0 w w')
 case atStart => exact ⟨(0), z3_22, H', ⟨Nat.le_refl _⟩, z3_21⟩
 case round =>
  clear H'
  obtain ⟨x3_1, rfl, HA, HK1, ⟨m1, rfl⟩⟩ := hrel
  cases gk with
  | zero => exact absurd HA.out (by simp [spec_KnowOk.l0])
  | succ k1 =>
   have H := HA.out
   clear HA
   simp only [spec_KnowOk.l0] at H
   by_cases c2 : x3_1 < (l0.length : Int)
   rotate_left
   ·
    rw [if_neg c2] at H
    have c2b0 : decide (x3_1 < (l0.length : Int)) = false := decide_eq_false c2
    clear c2
    obtain rfl := Option.some.inj H
    go_wp2
    go_ret
    exact ⟨z3_22, z3_21⟩
   rw [if_pos c2] at H
   have c2b0 : decide (x3_1 < (l0.length : Int)) = true := decide_eq_true c2
   clear c2
   by_cases c3 : 0 ≤ x3_1
   rotate_left
   ·
    rw [if_neg c3] at H
    exact absurd H (by simp)
   rw [if_pos c3] at H
   have c3b0 : decide (0 ≤ x3_1) = true := decide_eq_true c3
   clear c3
   replace H := Option.bind_eq_some_iff.mp H
   obtain ⟨t146, A40, H⟩ := H
   (try dsimp only at H)
   have A4 := Aside0.mk A40
   clear A40
   by_cases c5 : t146 = true
   rotate_left
   ·
    replace c5 := Bool.eq_false_iff.mpr c5
    subst c5
    rw [if_neg (show ¬ (false = true) by decide)] at H
    obtain rfl := Option.some.inj H
    have p145 : 0 ≤ (x3_1 : Int) := of_decide_eq_true z3_25
    have q145 : x3_1 < (l0.length : Int) := of_decide_eq_true z3_25
    obtain ⟨ad145, e145, hx145_0⟩ := Kd.at_int HR0.out x3_1 p145 q145
    cases e145
    replace p145 := eq_true p145
    replace q145 := eq_true q145
    go_wp2_with (first | ((with_reducible refine gate_callee (f := 77) rfl ?_); refine goesL_ (some 14) rfl rfl Tryz.func77 z3_4 rfl #[.int .i64 (rd l0 x3_1), .int .i64 0, .int .i64 1000] rfl z3_20 ?_; (with_reducible refine (spec_l01In.calls (rd l0 x3_1) 0 1000 false _ A4.out).mono ?_); rintro e w' ⟨rfl, ⟨nd, rfl⟩⟩; refine ⟨_, rfl, ?_⟩))
    go_ret
    exact ⟨z3_22, z3_21⟩
   subst c5
   rw [if_pos rfl] at H
   have H' := Aside0.mk H
   clear H
   have p145 : 0 ≤ (x3_1 : Int) := of_decide_eq_true z3_25
   have q145 : x3_1 < (l0.length : Int) := of_decide_eq_true z3_25
   obtain ⟨ad145, e145, hx145_0⟩ := Kd.at_int HR0.out x3_1 p145 q145
   cases e145
   replace p145 := eq_true p145
   replace q145 := eq_true q145
   go_wp2_with (first | ((with_reducible refine gate_callee (f := 77) rfl ?_); refine goesL_ (some 14) rfl rfl Tryz.func77 z3_4 rfl #[.int .i64 (rd l0 x3_1), .int .i64 0, .int .i64 1000] rfl z3_20 ?_; (with_reducible refine (spec_l01In.calls (rd l0 x3_1) 0 1000 true _ A4.out).mono ?_); rintro e w' ⟨rfl, ⟨nd, rfl⟩⟩; refine ⟨_, rfl, ?_⟩))
   go_roundg k1
   case measure => have := HK1.out; omega
   case rel => exact ⟨(wrap64 (x3_1 + 1)), z3_22, H', ⟨by have := HK1.out; omega⟩, z3_21⟩
def spec_DotOk.f (a0_0 : Int) (a0_1 : Int) : Option (Bool) := (spec_l01In.f a0_0 0 2).bind fun t148 => (if t148 = true then ((spec_l01In.f a0_1 1 1000).bind fun t149 => (some t149)) else (some false))
set_option maxHeartbeats 8000000 in
set_option maxRecDepth 100000 in
theorem spec_DotOk.calls (a0_0 : Int) (a0_1 : Int) (r : Bool) (w : World) (h : spec_DotOk.f a0_0 a0_1 = some r) :
  Calls Tryz.prog 76 #[.agg #[.int .i64 a0_0, .int .i64 a0_1]] w fun e w' => e = .returned (.bool r) ∧ Below w.heap.size w w' := by
 have hu59 := Tryz.underlying59
 have HB := Aside0.mk (Below.refl w.heap.size w)
 have H := h
 unfold spec_DotOk.f at H
 clear h
 replace H := Option.bind_eq_some_iff.mp H
 obtain ⟨t148, A20, H⟩ := H
 (try dsimp only at H)
 have A2 := Aside0.mk A20
 clear A20
 by_cases c3 : t148 = true
 rotate_left
 ·
  replace c3 := Bool.eq_false_iff.mpr c3
  subst c3
  rw [if_neg (show ¬ (false = true) by decide)] at H
  obtain rfl := Option.some.inj H
  go_enter Tryz.func76, Tryz.ntmps76
  go_wp2_with (first | ((with_reducible refine gate_dst (N := 1) rfl ?_); refine box_event ?hg (N := 1) ?hd (cs := #[.int .i64 a0_0, .int .i64 a0_1]) (t := 59) ?hr ?_; (case hd => rfl); (case hg => rfl); (case hr => first | (go_simp; done) | (go_simp; rfl)); intro gb147 hg w7 hbox hb; have BK147 := Aside0.mk (hbox); have GW147 := gw_ w z3_5 hg; have GE147 := gw_ w z3_5 hg; replace HB := Aside0.mk (below_step z3_5 hb); clear hb hbox hg; have hcz8 := bc2 BK147.out) | ((with_reducible refine gate_callee (f := 77) rfl ?_); refine goesL_ (some 5) rfl rfl Tryz.func77 z3_4 rfl #[.int .i64 a0_0, .int .i64 0, .int .i64 2] rfl z3_20 ?_; (with_reducible refine (spec_l01In.calls a0_0 0 2 false _ A2.out).mono ?_); rintro e w' ⟨rfl, ⟨nd, rfl⟩⟩; refine ⟨_, rfl, ?_⟩))
  go_ret
  exact ⟨z3_23, z3_24⟩
 subst c3
 rw [if_pos rfl] at H
 replace H := Option.bind_eq_some_iff.mp H
 obtain ⟨t149, A40, H⟩ := H
 (try dsimp only at H)
 have A4 := Aside0.mk A40
 clear A40
 obtain rfl := Option.some.inj H
 go_enter Tryz.func76, Tryz.ntmps76
 go_wp2_with (first | ((with_reducible refine gate_dst (N := 1) rfl ?_); refine box_event ?hg (N := 1) ?hd (cs := #[.int .i64 a0_0, .int .i64 a0_1]) (t := 59) ?hr ?_; (case hd => rfl); (case hg => rfl); (case hr => first | (go_simp; done) | (go_simp; rfl)); intro gb147 hg w5 hbox hb; have BK147 := Aside0.mk (hbox); have GW147 := gw_ w z3_5 hg; have GE147 := gw_ w z3_5 hg; replace HB := Aside0.mk (below_step z3_5 hb); clear hb hbox hg; have hcz6 := bc2 BK147.out) | ((with_reducible refine gate_callee (f := 77) rfl ?_); refine goesL_ (some 5) rfl rfl Tryz.func77 z3_4 rfl #[.int .i64 a0_0, .int .i64 0, .int .i64 2] rfl z3_20 ?_; (with_reducible refine (spec_l01In.calls a0_0 0 2 true _ A2.out).mono ?_); rintro e w' ⟨rfl, ⟨nd, rfl⟩⟩; refine ⟨_, rfl, ?_⟩) | (go_at_call 77; (with_reducible refine (spec_l01In.calls a0_1 1 1000 t149 _ A4.out).mono ?_); rintro e w' ⟨rfl, ⟨nd, rfl⟩⟩))
 go_ret
 exact ⟨z3_23, z3_24⟩
end Go.Proofs.YtbanogkoaplcdaaGreat.QDa
