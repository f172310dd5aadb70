/- Parts of the proof of FnExactDoAct, one behind the other. No condition. -/
import Derived.Test.YtbanogkoaplcdaaVFnExactDoActM17
import Derived.Test.YtbanogkoaplcdaaVFnExactDoActM30
import Derived.Test.YtbanogkoaplcdaaVFnExactDoActM46
import Derived.Test.YtbanogkoaplcdaaVFnExactDoActM15
namespace Go.Proofs.Ytbanogkoaplcdaa.QDo
open Go.RowKit Go.Proofs.Ytbanogkoaplcdaa.Reg11 Go.Proofs.Ytbanogkoaplcdaa.Reg10 Go.Proofs.Ytbanogkoaplcdaa.Reg9 Go.Proofs.Ytbanogkoaplcdaa.Lock Go.Proofs.Ytbanogkoaplcdaa.Auto Go.Proofs.Ytbanogkoaplcdaa.Short Go.Proofs.YtbanogkoaplcdaaW.PrintWords Go.Proofs.YtbanogkoaplcdaaW.PrintLast Go.Proofs.YtbanogkoaplcdaaW.PrintMore
set_option linter.unusedVariables false
set_option linter.unusedSimpArgs false
def laws_FnExactDoAct.g (k : Nat) (l0_0 : List Int) (l0_1 : List (S112)) (l0_2 : List (S115)) (l0_3 : List (S118)) (a1_0 : Int) (a1_1 : Int) (a1_2 : Int) (l1_3 : List Int) (a1_4 : Int) (a1_5 : ByteArray) (a1_6 : ByteArray) (a1_7 : Int) (a1_8 : Int) (a1_9 : Int) : Option (Bool) := (laws_toState.f k l0_0 l0_1 l0_2 l0_3).bind fun m => ((laws_toAct.f k a1_0 a1_1 a1_2 l1_3 a1_4 a1_5 a1_6 a1_7 a1_8 a1_9).bind fun b => ((spec_DoAct.f k m.1 m.2.1 m.2.2.1 m.2.2.2 b.1 b.2.1 b.2.2.1 b.2.2.2.1 b.2.2.2.2.1 b.2.2.2.2.2.1 b.2.2.2.2.2.2.1 b.2.2.2.2.2.2.2.1 b.2.2.2.2.2.2.2.2.1 b.2.2.2.2.2.2.2.2.2).bind fun s => ((impl_DoAct.f k m.1 m.2.1 m.2.2.1 m.2.2.2 b.1 b.2.1 b.2.2.1 b.2.2.2.1 b.2.2.2.2.1 b.2.2.2.2.2.1 b.2.2.2.2.2.2.1 b.2.2.2.2.2.2.2.1 b.2.2.2.2.2.2.2.2.1 b.2.2.2.2.2.2.2.2.2).bind fun g => (if g.2.2.2.2 = s.2.2.2.2 then ((laws_eqState.f k g.1 g.2.1 g.2.2.1 g.2.2.2.1 s.1 s.2.1 s.2.2.1 s.2.2.2.1).bind fun t => (if t = true then ((laws_eqState.f k m.1 m.2.1 m.2.2.1 m.2.2.2 m.1 m.2.1 m.2.2.1 m.2.2.2).bind fun t => (if t = true then ((laws_eqAct.f k b.1 b.2.1 b.2.2.1 b.2.2.2.1 b.2.2.2.2.1 b.2.2.2.2.2.1 b.2.2.2.2.2.2.1 b.2.2.2.2.2.2.2.1 b.2.2.2.2.2.2.2.2.1 b.2.2.2.2.2.2.2.2.2 b.1 b.2.1 b.2.2.1 b.2.2.2.1 b.2.2.2.2.1 b.2.2.2.2.2.1 b.2.2.2.2.2.2.1 b.2.2.2.2.2.2.2.1 b.2.2.2.2.2.2.2.2.1 b.2.2.2.2.2.2.2.2.2).bind fun t => (if t = true then ((laws_markState.f k m.1 m.2.1 m.2.2.1 m.2.2.2 1).bind fun x => ((laws_markAct.f k b.1 b.2.1 b.2.2.1 b.2.2.2.1 b.2.2.2.2.1 b.2.2.2.2.2.1 b.2.2.2.2.2.2.1 b.2.2.2.2.2.2.2.1 b.2.2.2.2.2.2.2.2.1 b.2.2.2.2.2.2.2.2.2 x.1).bind fun y => (if y.1 < 0 then (some false) else ((laws_markState.f k g.1 g.2.1 g.2.2.1 g.2.2.2.1 1).bind fun z => ((laws_heldState.f k z.2.1 z.2.2.1 z.2.2.2.1 z.2.2.2.2 1).bind fun t => (if t < 0 then (some false) else (if t = z.1 then (some true) else (some false)))))))) else (some false))) else (some false))) else (some false))) else (some false)))))
def laws_FnExactDoAct.f (k : Nat) (l0_0 : List Int) (l0_1 : List (S112)) (l0_2 : List (S115)) (l0_3 : List (S118)) (a1_0 : Int) (a1_1 : Int) (a1_2 : Int) (l1_3 : List Int) (a1_4 : Int) (a1_5 : ByteArray) (a1_6 : ByteArray) (a1_7 : Int) (a1_8 : Int) (a1_9 : Int) : Option (Bool) := (laws_szState.f k l0_0 l0_1 l0_2 l0_3 1048576).bind fun t => (if t < 0 then (some true) else ((laws_szAct.f a1_0 a1_1 a1_2 l1_3 a1_4 a1_5 a1_6 a1_7 a1_8 a1_9 t).bind fun t => (if t < 0 then (some true) else (laws_FnExactDoAct.g k l0_0 l0_1 l0_2 l0_3 a1_0 a1_1 a1_2 l1_3 a1_4 a1_5 a1_6 a1_7 a1_8 a1_9))))
def laws_FnExactDoAct.T14 : Bool × List (List Nat × List Nat) := (true, [([], []), ([], []), ([1], [1]), ([0, 2, 2], [0, 2]), ([3], [3])])
theorem laws_FnExactDoAct.tab14 : rtab .any (opsOf Try.f6 14) = laws_FnExactDoAct.T14 := by kernel_rfl
def laws_FnExactDoAct.T16 : Bool × List (List Nat × List Nat) := (true, [([], []), ([], []), ([1], [1]), ([0, 2, 2], [0, 2]), ([3], [3])])
theorem laws_FnExactDoAct.tab16 : rtab .any (opsOf Try.f6 16) = laws_FnExactDoAct.T16 := by kernel_rfl
set_option maxHeartbeats 8000000 in
set_option maxRecDepth 100000 in
theorem laws_FnExactDoAct.calls_true (k : Nat) (A0_0 : Option Addr) (c0_0 : Nat) (l0_0 : List Int) (A0_1 : Option Addr) (c0_1 : Nat) (l0_1 : List (S112)) (A0_2 : Option Addr) (c0_2 : Nat) (l0_2 : List (S115)) (A0_3 : Option Addr) (c0_3 : Nat) (l0_3 : List (S118)) (a1_0 : Int) (a1_1 : Int) (a1_2 : Int) (A1_3 : Option Addr) (c1_3 : Nat) (l1_3 : List Int) (a1_4 : Int) (a1_5 : ByteArray) (a1_6 : ByteArray) (a1_7 : Int) (a1_8 : Int) (a1_9 : Int) (w : World) (hr0_0 : Kd.C (Kd.int .i64) w A0_0 l0_0.length l0_0) (hc0_0 : l0_0.length ≤ c0_0) (hr0_1 : Kd.C k112 w A0_1 l0_1.length l0_1) (hc0_1 : l0_1.length ≤ c0_1) (hr0_2 : Kd.C k115 w A0_2 l0_2.length l0_2) (hc0_2 : l0_2.length ≤ c0_2) (hr0_3 : Kd.C k118 w A0_3 l0_3.length l0_3) (hc0_3 : l0_3.length ≤ c0_3) (hr1_3 : Kd.C (Kd.int .i64) w A1_3 l1_3.length l1_3) (hc1_3 : l1_3.length ≤ c1_3) (h : laws_FnExactDoAct.f k l0_0 l0_1 l0_2 l0_3 a1_0 a1_1 a1_2 l1_3 a1_4 a1_5 a1_6 a1_7 a1_8 a1_9 = some true) :
  Calls Try.prog 6 #[.agg #[.slice A0_0 l0_0.length c0_0, .slice A0_1 l0_1.length c0_1, .slice A0_2 l0_2.length c0_2, .slice A0_3 l0_3.length c0_3], .agg #[.int .i64 a1_0, .int .i64 a1_1, .int .i64 a1_2, .slice A1_3 l1_3.length c1_3, .int .i64 a1_4, .string a1_5, .string a1_6, .int .i64 a1_7, .int .i64 a1_8, .int .i64 a1_9]] w fun e w' => e = .returned (.bool true) ∧ Below w.heap.size w w' := by
 have hu27 := Try.underlying27
 have hu46 := Try.underlying46
 have hu36 := Try.underlying36
 have hu51 := Try.underlying51
 have HR0_0 := Aside0.mk hr0_0
 have HC0_0 := Aside0.mk hc0_0
 have HR0_1 := Aside0.mk hr0_1
 have HC0_1 := Aside0.mk hc0_1
 have HR0_2 := Aside0.mk hr0_2
 have HC0_2 := Aside0.mk hc0_2
 have HR0_3 := Aside0.mk hr0_3
 have HC0_3 := Aside0.mk hc0_3
 have HR1_3 := Aside0.mk hr1_3
 have HC1_3 := Aside0.mk hc1_3
 have HB := Aside0.mk (Below.refl w.heap.size w)
 have H := h
 clear h hr0_0 hc0_0 hr0_1 hc0_1 hr0_2 hc0_2 hr0_3 hc0_3 hr1_3 hc1_3
 unfold laws_FnExactDoAct.f at H
 replace H := bind_o H
 obtain ⟨t1, A1, H⟩ := H
 (try dsimp only at H)
 replace H := ite_lt H
 rcases H with ⟨c1, H⟩ | ⟨c1, H⟩
 ·
  clear H
  go_enter Try.func6, Try.ntmps6
  go_wp2_with (first
   | ((with_reducible refine gate_dst (N := 2) rfl ?_); refine bx_ (N := 2) ?_; intro g2 hg w1 hbox hb; (try replace BK2 := Aside0.mk (blk_below BK2.out hb)); (try replace BK3 := Aside0.mk (blk_below BK3.out hb)); replace HB := Aside0.mk (below_step HB.out hb); clear hb; have BK2 := Aside0.mk hbox; clear hbox hg; (try clear hcz2); (try clear hcz3); (try have hcz2 := bc4 BK2.out); (try have hcz3 := bc10 BK3.out))
   | ((with_reducible refine gate_dst (N := 3) rfl ?_); refine bx_ (N := 3) ?_; intro g3 hg w1 hbox hb; (try replace BK2 := Aside0.mk (blk_below BK2.out hb)); (try replace BK3 := Aside0.mk (blk_below BK3.out hb)); replace HB := Aside0.mk (below_step HB.out hb); clear hb; have BK3 := Aside0.mk hbox; clear hbox hg; (try clear hcz2); (try clear hcz3); (try have hcz2 := bc4 BK2.out); (try have hcz3 := bc10 BK3.out))
   | (go_at_call 9; refine (laws_szState.calls k _ _ l0_0 _ _ l0_1 _ _ l0_2 _ _ l0_3 1048576 _ _ zC zL zC zL zC zL zC zL zA).mono ?_; rintro e w' ⟨rfl, hb⟩; (try replace BK2 := Aside0.mk (blk_below BK2.out hb)); (try replace BK3 := Aside0.mk (blk_below BK3.out hb)); replace HB := Aside0.mk (below_step HB.out hb); clear hb; (try clear hcz2); (try clear hcz3); (try have hcz2 := bc4 BK2.out); (try have hcz3 := bc10 BK3.out))
   | (go_at_call 19; refine (laws_szAct.calls a1_0 a1_1 a1_2 _ _ l1_3 a1_4 a1_5 a1_6 a1_7 a1_8 a1_9 _ _ _ zC zL zA).mono ?_; rintro e w' ⟨rfl, hb⟩; (try replace BK2 := Aside0.mk (blk_below BK2.out hb)); (try replace BK3 := Aside0.mk (blk_below BK3.out hb)); replace HB := Aside0.mk (below_step HB.out hb); clear hb; (try clear hcz2); (try clear hcz3); (try have hcz2 := bc4 BK2.out); (try have hcz3 := bc10 BK3.out))
   )
  go_ret
  exact ⟨rfl, HB.out⟩
 replace H := bind_o H
 obtain ⟨t2, A2, H⟩ := H
 (try dsimp only at H)
 replace H := ite_lt H
 rcases H with ⟨c2, H⟩ | ⟨c2, H⟩
 ·
  clear H
  go_enter Try.func6, Try.ntmps6
  go_wp2_with (first
   | ((with_reducible refine gate_dst (N := 2) rfl ?_); refine bx_ (N := 2) ?_; intro g2 hg w1 hbox hb; (try replace BK2 := Aside0.mk (blk_below BK2.out hb)); (try replace BK3 := Aside0.mk (blk_below BK3.out hb)); replace HB := Aside0.mk (below_step HB.out hb); clear hb; have BK2 := Aside0.mk hbox; clear hbox hg; (try clear hcz2); (try clear hcz3); (try have hcz2 := bc4 BK2.out); (try have hcz3 := bc10 BK3.out))
   | ((with_reducible refine gate_dst (N := 3) rfl ?_); refine bx_ (N := 3) ?_; intro g3 hg w1 hbox hb; (try replace BK2 := Aside0.mk (blk_below BK2.out hb)); (try replace BK3 := Aside0.mk (blk_below BK3.out hb)); replace HB := Aside0.mk (below_step HB.out hb); clear hb; have BK3 := Aside0.mk hbox; clear hbox hg; (try clear hcz2); (try clear hcz3); (try have hcz2 := bc4 BK2.out); (try have hcz3 := bc10 BK3.out))
   | (go_at_call 9; refine (laws_szState.calls k _ _ l0_0 _ _ l0_1 _ _ l0_2 _ _ l0_3 1048576 _ _ zC zL zC zL zC zL zC zL zA).mono ?_; rintro e w' ⟨rfl, hb⟩; (try replace BK2 := Aside0.mk (blk_below BK2.out hb)); (try replace BK3 := Aside0.mk (blk_below BK3.out hb)); replace HB := Aside0.mk (below_step HB.out hb); clear hb; (try clear hcz2); (try clear hcz3); (try have hcz2 := bc4 BK2.out); (try have hcz3 := bc10 BK3.out))
   | (go_at_call 19; refine (laws_szAct.calls a1_0 a1_1 a1_2 _ _ l1_3 a1_4 a1_5 a1_6 a1_7 a1_8 a1_9 _ _ _ zC zL zA).mono ?_; rintro e w' ⟨rfl, hb⟩; (try replace BK2 := Aside0.mk (blk_below BK2.out hb)); (try replace BK3 := Aside0.mk (blk_below BK3.out hb)); replace HB := Aside0.mk (below_step HB.out hb); clear hb; (try clear hcz2); (try clear hcz3); (try have hcz2 := bc4 BK2.out); (try have hcz3 := bc10 BK3.out))
   )
  go_ret
  exact ⟨rfl, HB.out⟩
 unfold laws_FnExactDoAct.g at H
 replace H := bind_o H
 obtain ⟨m, AM, H⟩ := H
 (try dsimp only at H)
 replace H := bind_o H
 obtain ⟨b, AB, H⟩ := H
 (try dsimp only at H)
 replace H := bind_o H
 obtain ⟨s, AS, H⟩ := H
 (try dsimp only at H)
 replace H := bind_o H
 obtain ⟨g, AG, H⟩ := H
 (try dsimp only at H)
 replace H := ite_ei H
 rcases H with ⟨cd, H⟩ | ⟨-, H⟩
 rotate_left
 · exact nofalse H
 replace H := bind_o H
 obtain ⟨t, AE1, H⟩ := H
 (try dsimp only at H)
 replace H := ite_b H
 rcases H with ⟨rfl, H⟩ | ⟨-, H⟩
 rotate_left
 · exact nofalse H
 replace H := bind_o H
 obtain ⟨t, AE2, H⟩ := H
 (try dsimp only at H)
 replace H := ite_b H
 rcases H with ⟨rfl, H⟩ | ⟨-, H⟩
 rotate_left
 · exact nofalse H
 replace H := bind_o H
 obtain ⟨t, AE3, H⟩ := H
 (try dsimp only at H)
 replace H := ite_b H
 rcases H with ⟨rfl, H⟩ | ⟨-, H⟩
 rotate_left
 · exact nofalse H
 replace H := bind_o H
 obtain ⟨x, AX, H⟩ := H
 (try dsimp only at H)
 replace H := bind_o H
 obtain ⟨y, AY, H⟩ := H
 (try dsimp only at H)
 replace H := ite_lt H
 rcases H with ⟨-, H⟩ | ⟨cy, H⟩
 · exact nofalse H
 replace H := bind_o H
 obtain ⟨z, AZ, H⟩ := H
 (try dsimp only at H)
 replace H := bind_o H
 obtain ⟨q, AQ, H⟩ := H
 (try dsimp only at H)
 replace H := ite_lt H
 rcases H with ⟨-, H⟩ | ⟨cq, H⟩
 · exact nofalse H
 replace H := ite_ei H
 rcases H with ⟨cz, H⟩ | ⟨-, H⟩
 rotate_left
 · exact nofalse H
 clear H
 go_enter Try.func6, Try.ntmps6
 go_wp2_with (first
  | ((with_reducible refine gate_dst (N := 2) rfl ?_); refine bx_ (N := 2) ?_; intro g2 hg w1 hbox hb; (try replace BK2 := Aside0.mk (blk_below BK2.out hb)); (try replace BK3 := Aside0.mk (blk_below BK3.out hb)); replace HB := Aside0.mk (below_step HB.out hb); clear hb; have BK2 := Aside0.mk hbox; clear hbox hg; (try clear hcz2); (try clear hcz3); (try have hcz2 := bc4 BK2.out); (try have hcz3 := bc10 BK3.out))
  | ((with_reducible refine gate_dst (N := 3) rfl ?_); refine bx_ (N := 3) ?_; intro g3 hg w1 hbox hb; (try replace BK2 := Aside0.mk (blk_below BK2.out hb)); (try replace BK3 := Aside0.mk (blk_below BK3.out hb)); replace HB := Aside0.mk (below_step HB.out hb); clear hb; have BK3 := Aside0.mk hbox; clear hbox hg; (try clear hcz2); (try clear hcz3); (try have hcz2 := bc4 BK2.out); (try have hcz3 := bc10 BK3.out))
  | (go_at_call 9; refine (laws_szState.calls k _ _ l0_0 _ _ l0_1 _ _ l0_2 _ _ l0_3 1048576 _ _ zC zL zC zL zC zL zC zL zA).mono ?_; rintro e w' ⟨rfl, hb⟩; (try replace BK2 := Aside0.mk (blk_below BK2.out hb)); (try replace BK3 := Aside0.mk (blk_below BK3.out hb)); replace HB := Aside0.mk (below_step HB.out hb); clear hb; (try clear hcz2); (try clear hcz3); (try have hcz2 := bc4 BK2.out); (try have hcz3 := bc10 BK3.out))
  | (go_at_call 19; refine (laws_szAct.calls a1_0 a1_1 a1_2 _ _ l1_3 a1_4 a1_5 a1_6 a1_7 a1_8 a1_9 _ _ _ zC zL zA).mono ?_; rintro e w' ⟨rfl, hb⟩; (try replace BK2 := Aside0.mk (blk_below BK2.out hb)); (try replace BK3 := Aside0.mk (blk_below BK3.out hb)); replace HB := Aside0.mk (below_step HB.out hb); clear hb; (try clear hcz2); (try clear hcz3); (try have hcz2 := bc4 BK2.out); (try have hcz3 := bc10 BK3.out))
  )
 refine reg11_ (u1 := .agg #[.slice A0_0 l0_0.length c0_0, .slice A0_1 l0_1.length c0_1, .slice A0_2 l0_2.length c0_2, .slice A0_3 l0_3.length c0_3]) (u2 := .agg #[.int .i64 a1_0, .int .i64 a1_1, .int .i64 a1_2, .slice A1_3 l1_3.length c1_3, .int .i64 a1_4, .string a1_5, .string a1_6, .int .i64 a1_7, .int .i64 a1_8, .int .i64 a1_9]) (R1 := fun v W => ∃ s0 s1 s2 s3, v = .agg #[s0, s1, s2, s3] ∧ ∃ lo hi, Rw w W lo hi s0 s1 s2 s3 m.1 m.2.1 m.2.2.1 m.2.2.2) (R2 := fun v W => ∃ s3, v = .agg #[.int .i64 b.1, .int .i64 b.2.1, .int .i64 b.2.2.1, s3, .int .i64 b.2.2.2.2.1, .string b.2.2.2.2.2.1, .string b.2.2.2.2.2.2.1, .int .i64 b.2.2.2.2.2.2.2.1, .int .i64 b.2.2.2.2.2.2.2.2.1, .int .i64 b.2.2.2.2.2.2.2.2.2] ∧ Kd.R (Kd.int .i64) 3 W w.heap.size (fun _ => True) s3 b.2.2.2.1) (R3 := fun s0 s1 s2 s3 y W => y = .int .i64 s.2.2.2.2 ∧ ∃ lo hi, w'.heap.size ≤ lo ∧ Rw w W lo hi s0 s1 s2 s3 s.1 s.2.1 s.2.2.1 s.2.2.2.1) ?hc1 ?hm1 ?hc2 ?hm2 ?hc3 ?hm3 ?hm4 ?hr0 ?hr2 ?hQ
 case hc1 =>
  intro W hW
  have HBW := below_step HB.out hW
  refine (laws_toState.calls k _ _ l0_0 _ _ l0_1 _ _ l0_2 _ _ l0_3 _ _ _ _ _ (Kd.C_below HR0_0.out HBW) HC0_0.out (Kd.C_below HR0_1.out HBW) HC0_1.out (Kd.C_below HR0_2.out HBW) HC0_2.out (Kd.C_below HR0_3.out HBW) HC0_3.out AM.out).mono ?_
  rintro e w' ⟨v0, v1, v2, v3, rfl, ho0, ho1, ho2, ho3, hb⟩
  exact ⟨_, rfl, ⟨_, _, _, _, rfl, _, _, Rw.of (w := w) ho0 ho1 ho2 ho3 HBW.size⟩, hb⟩
 case hm1 =>
  rintro v W W' ⟨s0, s1, s2, s3, rfl, lo, hi, h⟩ hb
  exact ⟨_, _, _, _, rfl, lo, hi, h.below hb⟩
 case hc2 =>
  intro W hW
  have HBW := below_step HB.out hW
  refine (laws_toAct.calls k a1_0 a1_1 a1_2 _ _ l1_3 a1_4 a1_5 a1_6 a1_7 a1_8 a1_9 _ _ _ _ _ _ _ _ _ _ _ (Kd.C_below HR1_3.out HBW) HC1_3.out AB.out).mono ?_
  rintro e w' ⟨v3, rfl, ho, hb⟩
  exact ⟨_, rfl, ⟨_, rfl, Kd.R_lower ho HBW.size⟩, hb⟩
 case hm2 =>
  rintro v W W' ⟨s3, rfl, h⟩ hb
  exact ⟨_, rfl, Kd.R_below h hb⟩
 case hc3 =>
  rintro W v1 v2 hW ⟨s0, s1, s2, s3, rfl, lo, hi, hR⟩ ⟨u3, rfl, hA⟩
  have HBW := below_step HB.out hW
  obtain ⟨X0, X1, X2, X3, x0, x1, x2, x3, rfl, rfl, rfl, rfl⟩ := hR.shape
  obtain ⟨U, cu, rfl⟩ := Kd.R_slice hA
  refine (spec_DoAct.calls k _ _ _ _ _ _ _ _ m.1 m.2.1 m.2.2.1 m.2.2.2 b.1 b.2.1 b.2.2.1 _ _ b.2.2.2.1 b.2.2.2.2.1 b.2.2.2.2.2.1 b.2.2.2.2.2.2.1 b.2.2.2.2.2.2.2.1 b.2.2.2.2.2.2.2.2.1 b.2.2.2.2.2.2.2.2.2 _ _ _ _ _ _ (Kd.R_reads' hR.r0).2.2 (Kd.R_reads' hR.r0).2.1 (Kd.R_reads' hR.r1).2.2 (Kd.R_reads' hR.r1).2.1 (Kd.R_reads' hR.r2).2.2 (Kd.R_reads' hR.r2).2.1 (Kd.R_reads' hR.r3).2.2 (Kd.R_reads' hR.r3).2.1 (Kd.R_reads' hA).2.2 (Kd.R_reads' hA).2.1 AS.out).mono ?_
  rintro e w' ⟨v0, v1, v2, v3, rfl, ho0, ho1, ho2, ho3, hb⟩
  have hr := Rw.of (w := w) ho0 ho1 ho2 ho3 HBW.size
  exact ⟨_, _, _, _, _, rfl, hr.one, ⟨rfl, _, _, hW.size, hr⟩, hb⟩
 case hm3 =>
  rintro s0 s1 s2 s3 y W W' ⟨rfl, lo, hi, hl, h⟩ hb
  exact ⟨rfl, lo, hi, hl, h.below hb⟩
 case hm4 =>
  rintro s0 s1 s2 s3 y W g cs ⟨rfl, lo, hi, hl, h⟩ hg
  exact ⟨rfl, lo, hi, hl, h.sets hg⟩
 case hr0 => intro W hW; have hc_ := bc4 (blk_below BK2.out hW); go_simp
 case hr2 => intro W hW; have hc_ := bc10 (blk_below BK3.out hW); go_simp
 intro v1 v2 s0 s1 s2 s3 y g6 W6 hR3 hg hlt hgw hb
 obtain ⟨rfl, lW, hW, hlW, hrW⟩ := hR3
 have RW_ := Aside0.mk hrW
 clear hrW hlt hgw
 have BK6_ := Aside0.mk hg
 clear hg
 (try replace BK2 := Aside0.mk (blk_below BK2.out hb))
 (try replace BK3 := Aside0.mk (blk_below BK3.out hb))
 replace HB := Aside0.mk (below_step HB.out hb)
 clear hb
 have RW := RW_; have BK6 := BK6_; clear RW_ BK6_
 obtain ⟨W0, W1, W2, W3, Wc0, Wc1, Wc2, Wc3, rfl, rfl, rfl, rfl⟩ := RW.out.shape
 (try clear hcz2)
 (try clear hcz6)
 (try clear hcz3)
 (try have hcz2 := bc4 BK2.out)
 (try have hcz6 := bc4 BK6.out)
 (try have hcz3 := bc10 BK3.out)
 simp only [Act.put, List.setIfInBounds_toArray, List.set_cons_zero, List.set_cons_succ]
 have TKX := Aside0.mk trivial
 have TKA := Aside0.mk trivial
 have TKG := Aside0.mk trivial
 have TKM := Aside0.mk trivial
 have TKN := Aside0.mk trivial
 go_wp2_with (first
  | (go_at_call 11; clear TKX; have LWX := Aside0.mk RW.out.le; refine (laws_toState.calls k _ _ l0_0 _ _ l0_1 _ _ l0_2 _ _ l0_3 _ _ _ _ _ zC zL zC zL zC zL zC zL AM.out).mono ?_; rintro e w' ⟨v0, v1, v2, v3, rfl, ho0, ho1, ho2, ho3, hb⟩; have RX_ := Aside0.mk (Rw.of (w := w) ho0 ho1 ho2 ho3 HB.out.size); clear ho0 ho1 ho2 ho3; (try replace BK2 := Aside0.mk (blk_below BK2.out hb)); (try replace BK6 := Aside0.mk (blk_below BK6.out hb)); (try replace BK8 := Aside0.mk (blk_below BK8.out hb)); (try replace BK10 := Aside0.mk (blk_below BK10.out hb)); (try replace BK3 := Aside0.mk (blk_below BK3.out hb)); (try replace BK9 := Aside0.mk (blk_below BK9.out hb)); (try replace RW := Aside0.mk (RW.out.below hb)); (try replace RX := Aside0.mk (RX.out.below hb)); (try replace RG := Aside0.mk (RG.out.below hb)); (try replace LA := Aside0.mk (Nat.le_trans LA.out hb.size)); (try replace RA := Aside0.mk (Kd.R_below RA.out hb)); replace HB := Aside0.mk (below_step HB.out hb); clear hb; have RX := RX_; clear RX_; obtain ⟨X0, X1, X2, X3, Xc0, Xc1, Xc2, Xc3, rfl, rfl, rfl, rfl⟩ := RX.out.shape; (try clear hcz2); (try clear hcz6); (try clear hcz8); (try clear hcz10); (try clear hcz3); (try clear hcz9); (try have hcz2 := bc4 BK2.out); (try have hcz6 := bc4 BK6.out); (try have hcz8 := bc4 BK8.out); (try have hcz10 := bc4 BK10.out); (try have hcz3 := bc10 BK3.out); (try have hcz9 := bc10 BK9.out))
  | ((with_reducible refine gate_dst (N := 8) rfl ?_); refine al4_ (N := 8) RX.out.one ?_; intro g8 w1 hg hbox hb; (try replace BK2 := Aside0.mk (blk_below BK2.out hb)); (try replace BK6 := Aside0.mk (blk_below BK6.out hb)); (try replace BK8 := Aside0.mk (blk_below BK8.out hb)); (try replace BK10 := Aside0.mk (blk_below BK10.out hb)); (try replace BK3 := Aside0.mk (blk_below BK3.out hb)); (try replace BK9 := Aside0.mk (blk_below BK9.out hb)); (try replace RW := Aside0.mk (RW.out.below hb)); (try replace RX := Aside0.mk (RX.out.below hb)); (try replace RG := Aside0.mk (RG.out.below hb)); (try replace LA := Aside0.mk (Nat.le_trans LA.out hb.size)); (try replace RA := Aside0.mk (Kd.R_below RA.out hb)); replace HB := Aside0.mk (below_step HB.out hb); clear hb; have BK8 := Aside0.mk hbox; clear hbox hg; (try clear hcz2); (try clear hcz6); (try clear hcz8); (try clear hcz10); (try clear hcz3); (try clear hcz9); (try have hcz2 := bc4 BK2.out); (try have hcz6 := bc4 BK6.out); (try have hcz8 := bc4 BK8.out); (try have hcz10 := bc4 BK10.out); (try have hcz3 := bc10 BK3.out); (try have hcz9 := bc10 BK9.out))
  | (go_at_call 21; clear TKA; have LWA := Aside0.mk RW.out.le; have LXA := Aside0.mk RX.out.le; refine (laws_toAct.calls k a1_0 a1_1 a1_2 _ _ l1_3 a1_4 a1_5 a1_6 a1_7 a1_8 a1_9 _ _ _ _ _ _ _ _ _ _ _ zC zL AB.out).mono ?_; rintro e w' ⟨v3, rfl, ho, hb⟩; have RA_ := Aside0.mk (rowI (w := w) ho HB.out.size); obtain ⟨U, cu, rfl⟩ := Kd.R_slice ho; have LA_ := Aside0.mk (Nat.le_refl w'.heap.size); clear ho; (try replace BK2 := Aside0.mk (blk_below BK2.out hb)); (try replace BK6 := Aside0.mk (blk_below BK6.out hb)); (try replace BK8 := Aside0.mk (blk_below BK8.out hb)); (try replace BK10 := Aside0.mk (blk_below BK10.out hb)); (try replace BK3 := Aside0.mk (blk_below BK3.out hb)); (try replace BK9 := Aside0.mk (blk_below BK9.out hb)); (try replace RW := Aside0.mk (RW.out.below hb)); (try replace RX := Aside0.mk (RX.out.below hb)); (try replace RG := Aside0.mk (RG.out.below hb)); (try replace LA := Aside0.mk (Nat.le_trans LA.out hb.size)); (try replace RA := Aside0.mk (Kd.R_below RA.out hb)); replace HB := Aside0.mk (below_step HB.out hb); clear hb; have RA := RA_; have LA := LA_; clear RA_ LA_; (try clear hcz2); (try clear hcz6); (try clear hcz8); (try clear hcz10); (try clear hcz3); (try clear hcz9); (try have hcz2 := bc4 BK2.out); (try have hcz6 := bc4 BK6.out); (try have hcz8 := bc4 BK8.out); (try have hcz10 := bc4 BK10.out); (try have hcz3 := bc10 BK3.out); (try have hcz9 := bc10 BK9.out))
  | ((with_reducible refine gate_dst (N := 9) rfl ?_); refine al10_ (N := 9) rfl ?_; intro g9 w1 hg hbox hb; (try replace BK2 := Aside0.mk (blk_below BK2.out hb)); (try replace BK6 := Aside0.mk (blk_below BK6.out hb)); (try replace BK8 := Aside0.mk (blk_below BK8.out hb)); (try replace BK10 := Aside0.mk (blk_below BK10.out hb)); (try replace BK3 := Aside0.mk (blk_below BK3.out hb)); (try replace BK9 := Aside0.mk (blk_below BK9.out hb)); (try replace RW := Aside0.mk (RW.out.below hb)); (try replace RX := Aside0.mk (RX.out.below hb)); (try replace RG := Aside0.mk (RG.out.below hb)); (try replace LA := Aside0.mk (Nat.le_trans LA.out hb.size)); (try replace RA := Aside0.mk (Kd.R_below RA.out hb)); replace HB := Aside0.mk (below_step HB.out hb); clear hb; have BK9 := Aside0.mk hbox; clear hbox hg; (try clear hcz2); (try clear hcz6); (try clear hcz8); (try clear hcz10); (try clear hcz3); (try clear hcz9); (try have hcz2 := bc4 BK2.out); (try have hcz6 := bc4 BK6.out); (try have hcz8 := bc4 BK8.out); (try have hcz10 := bc4 BK10.out); (try have hcz3 := bc10 BK3.out); (try have hcz9 := bc10 BK9.out))
  | (go_at_call 22; clear TKG; have LWG := Aside0.mk RW.out.le; have LXG := Aside0.mk RX.out.le; have LAG := Aside0.mk LA.out; refine (impl_DoAct.calls k _ _ _ _ _ _ _ _ m.1 m.2.1 m.2.2.1 m.2.2.2 b.1 b.2.1 b.2.2.1 _ _ b.2.2.2.1 b.2.2.2.2.1 b.2.2.2.2.2.1 b.2.2.2.2.2.2.1 b.2.2.2.2.2.2.2.1 b.2.2.2.2.2.2.2.2.1 b.2.2.2.2.2.2.2.2.2 _ _ _ _ _ _ (Kd.R_reads' RX.out.r0).2.2 (Kd.R_reads' RX.out.r0).2.1 (Kd.R_reads' RX.out.r1).2.2 (Kd.R_reads' RX.out.r1).2.1 (Kd.R_reads' RX.out.r2).2.2 (Kd.R_reads' RX.out.r2).2.1 (Kd.R_reads' RX.out.r3).2.2 (Kd.R_reads' RX.out.r3).2.1 (Kd.R_reads' RA.out).2.2 (Kd.R_reads' RA.out).2.1 AG.out).mono ?_; rintro e w' ⟨v0, v1, v2, v3, rfl, ho0, ho1, ho2, ho3, hb⟩; have RG_ := Aside0.mk (Rw.of (w := w) ho0 ho1 ho2 ho3 HB.out.size); clear ho0 ho1 ho2 ho3; (try replace BK2 := Aside0.mk (blk_below BK2.out hb)); (try replace BK6 := Aside0.mk (blk_below BK6.out hb)); (try replace BK8 := Aside0.mk (blk_below BK8.out hb)); (try replace BK10 := Aside0.mk (blk_below BK10.out hb)); (try replace BK3 := Aside0.mk (blk_below BK3.out hb)); (try replace BK9 := Aside0.mk (blk_below BK9.out hb)); (try replace RW := Aside0.mk (RW.out.below hb)); (try replace RX := Aside0.mk (RX.out.below hb)); (try replace RG := Aside0.mk (RG.out.below hb)); (try replace LA := Aside0.mk (Nat.le_trans LA.out hb.size)); (try replace RA := Aside0.mk (Kd.R_below RA.out hb)); replace HB := Aside0.mk (below_step HB.out hb); clear hb; have RG := RG_; clear RG_; obtain ⟨Y0, Y1, Y2, Y3, Yc0, Yc1, Yc2, Yc3, rfl, rfl, rfl, rfl⟩ := RG.out.shape; (try clear hcz2); (try clear hcz6); (try clear hcz8); (try clear hcz10); (try clear hcz3); (try clear hcz9); (try have hcz2 := bc4 BK2.out); (try have hcz6 := bc4 BK6.out); (try have hcz8 := bc4 BK8.out); (try have hcz10 := bc4 BK10.out); (try have hcz3 := bc10 BK3.out); (try have hcz9 := bc10 BK9.out))
  | ((with_reducible refine gate_dst (N := 10) rfl ?_); refine al4_ (N := 10) RG.out.one ?_; intro g10 w1 hg hbox hb; (try replace BK2 := Aside0.mk (blk_below BK2.out hb)); (try replace BK6 := Aside0.mk (blk_below BK6.out hb)); (try replace BK8 := Aside0.mk (blk_below BK8.out hb)); (try replace BK10 := Aside0.mk (blk_below BK10.out hb)); (try replace BK3 := Aside0.mk (blk_below BK3.out hb)); (try replace BK9 := Aside0.mk (blk_below BK9.out hb)); (try replace RW := Aside0.mk (RW.out.below hb)); (try replace RX := Aside0.mk (RX.out.below hb)); (try replace RG := Aside0.mk (RG.out.below hb)); (try replace LA := Aside0.mk (Nat.le_trans LA.out hb.size)); (try replace RA := Aside0.mk (Kd.R_below RA.out hb)); replace HB := Aside0.mk (below_step HB.out hb); clear hb; have BK10 := Aside0.mk hbox; clear hbox hg; (try clear hcz2); (try clear hcz6); (try clear hcz8); (try clear hcz10); (try clear hcz3); (try clear hcz9); (try have hcz2 := bc4 BK2.out); (try have hcz6 := bc4 BK6.out); (try have hcz8 := bc4 BK8.out); (try have hcz10 := bc4 BK10.out); (try have hcz3 := bc10 BK3.out); (try have hcz9 := bc10 BK9.out))
  | (go_at_call 14; refine (laws_eqState.calls k _ _ g.1 _ _ g.2.1 _ _ g.2.2.1 _ _ g.2.2.2.1 _ _ s.1 _ _ s.2.1 _ _ s.2.2.1 _ _ s.2.2.2.1 _ _ (Kd.R_reads' RG.out.r0).2.2 (Kd.R_reads' RG.out.r0).2.1 (Kd.R_reads' RG.out.r1).2.2 (Kd.R_reads' RG.out.r1).2.1 (Kd.R_reads' RG.out.r2).2.2 (Kd.R_reads' RG.out.r2).2.1 (Kd.R_reads' RG.out.r3).2.2 (Kd.R_reads' RG.out.r3).2.1 (Kd.R_reads' RW.out.r0).2.2 (Kd.R_reads' RW.out.r0).2.1 (Kd.R_reads' RW.out.r1).2.2 (Kd.R_reads' RW.out.r1).2.1 (Kd.R_reads' RW.out.r2).2.2 (Kd.R_reads' RW.out.r2).2.1 (Kd.R_reads' RW.out.r3).2.2 (Kd.R_reads' RW.out.r3).2.1 zA).mono ?_; rintro e w' ⟨rfl, hb⟩; (try replace BK2 := Aside0.mk (blk_below BK2.out hb)); (try replace BK6 := Aside0.mk (blk_below BK6.out hb)); (try replace BK8 := Aside0.mk (blk_below BK8.out hb)); (try replace BK10 := Aside0.mk (blk_below BK10.out hb)); (try replace BK3 := Aside0.mk (blk_below BK3.out hb)); (try replace BK9 := Aside0.mk (blk_below BK9.out hb)); (try replace RW := Aside0.mk (RW.out.below hb)); (try replace RX := Aside0.mk (RX.out.below hb)); (try replace RG := Aside0.mk (RG.out.below hb)); (try replace LA := Aside0.mk (Nat.le_trans LA.out hb.size)); (try replace RA := Aside0.mk (Kd.R_below RA.out hb)); replace HB := Aside0.mk (below_step HB.out hb); clear hb; (try clear hcz2); (try clear hcz6); (try clear hcz8); (try clear hcz10); (try clear hcz3); (try clear hcz9); (try have hcz2 := bc4 BK2.out); (try have hcz6 := bc4 BK6.out); (try have hcz8 := bc4 BK8.out); (try have hcz10 := bc4 BK10.out); (try have hcz3 := bc10 BK3.out); (try have hcz9 := bc10 BK9.out))
  )
 refine startf_ (F := fun W => Below w'.heap.size w' W) (Below.refl _ _) (fun W h => below_drew h) (fun w_ hHeld => ?_)
 refine with_tab laws_FnExactDoAct.tab14 (fun HT_ => ?_)
 repeat (first | refine us_ ?_ | refine ps_ ?_ | refine ts_ hHeld ?_ (hc := take_of HT_.out (by kernel_rfl)) (hv := by intro w_ hs; have hc8_ := bc4 (blk_below BK8.out hs); have hc2_ := bc4 (blk_below BK2.out hs); go_simp; with_reducible rfl))
 have HBW := below_step HB.out hHeld
 refine oq_ Try.func11 (laws_toState.calls k _ _ l0_0 _ _ l0_1 _ _ l0_2 _ _ l0_3 _ _ _ _ _ (Kd.C_below HR0_0.out HBW) HC0_0.out (Kd.C_below HR0_1.out HBW) HC0_1.out (Kd.C_below HR0_2.out HBW) HC0_2.out (Kd.C_below HR0_3.out HBW) HC0_3.out AM.out) ?_
 rintro e w1 ⟨v0, v1, v2, v3, rfl, ho0, ho1, ho2, ho3, hb⟩
 refine ⟨_, rfl, below_step hHeld hb, fun hH => ?_⟩
 have RT := Aside0.mk (Rw.of (w := w) ho0 ho1 ho2 ho3 HBW.size)
 have RY := Aside0.mk (RX.out.below hH)
 clear ho0 ho1 ho2 ho3 hb
 obtain ⟨Z0, Z1, Z2, Z3, Zc0, Zc1, Zc2, Zc3, rfl, rfl, rfl, rfl⟩ := RT.out.shape
 simp only [Act.put, List.setIfInBounds_toArray, List.set_cons_zero, List.set_cons_succ]
 refine oq_ Try.func14 (laws_eqState.calls k _ _ m.1 _ _ m.2.1 _ _ m.2.2.1 _ _ m.2.2.2 _ _ m.1 _ _ m.2.1 _ _ m.2.2.1 _ _ m.2.2.2 _ _ (Kd.R_reads' RY.out.r0).2.2 (Kd.R_reads' RY.out.r0).2.1 (Kd.R_reads' RY.out.r1).2.2 (Kd.R_reads' RY.out.r1).2.1 (Kd.R_reads' RY.out.r2).2.2 (Kd.R_reads' RY.out.r2).2.1 (Kd.R_reads' RY.out.r3).2.2 (Kd.R_reads' RY.out.r3).2.1 (Kd.R_reads' RT.out.r0).2.2 (Kd.R_reads' RT.out.r0).2.1 (Kd.R_reads' RT.out.r1).2.2 (Kd.R_reads' RT.out.r1).2.1 (Kd.R_reads' RT.out.r2).2.2 (Kd.R_reads' RT.out.r2).2.1 (Kd.R_reads' RT.out.r3).2.2 (Kd.R_reads' RT.out.r3).2.1 AE2.out) ?_
 rintro e w2 ⟨rfl, hb⟩
 refine ⟨_, rfl, below_step hH hb, fun hH2 => ?_⟩
 clear RT RY hb
 simp only [Act.put, List.setIfInBounds_toArray, List.set_cons_zero, List.set_cons_succ]
 repeat (first | refine us_ ?_ | refine ps_ ?_)
 refine done_ (done_of HT_.out zK) ?_
 have hb := hH2
 clear HT_ hH hH2 hHeld HBW
 (try replace BK2 := Aside0.mk (blk_below BK2.out hb))
 (try replace BK6 := Aside0.mk (blk_below BK6.out hb))
 (try replace BK8 := Aside0.mk (blk_below BK8.out hb))
 (try replace BK10 := Aside0.mk (blk_below BK10.out hb))
 (try replace BK3 := Aside0.mk (blk_below BK3.out hb))
 (try replace BK9 := Aside0.mk (blk_below BK9.out hb))
 (try replace RW := Aside0.mk (RW.out.below hb))
 (try replace RX := Aside0.mk (RX.out.below hb))
 (try replace RG := Aside0.mk (RG.out.below hb))
 (try replace LA := Aside0.mk (Nat.le_trans LA.out hb.size))
 (try replace RA := Aside0.mk (Kd.R_below RA.out hb))
 replace HB := Aside0.mk (below_step HB.out hb)
 clear hb
 (try clear hcz2)
 (try clear hcz6)
 (try clear hcz8)
 (try clear hcz10)
 (try clear hcz3)
 (try clear hcz9)
 (try have hcz2 := bc4 BK2.out)
 (try have hcz6 := bc4 BK6.out)
 (try have hcz8 := bc4 BK8.out)
 (try have hcz10 := bc4 BK10.out)
 (try have hcz3 := bc10 BK3.out)
 (try have hcz9 := bc10 BK9.out)
 go_wp2
 refine startf_ (F := fun W => Below w2.heap.size w2 W) (Below.refl _ _) (fun W h => below_drew h) (fun w_ hHeld => ?_)
 refine with_tab laws_FnExactDoAct.tab16 (fun HT_ => ?_)
 repeat (first | refine us_ ?_ | refine ps_ ?_ | refine ts_ hHeld ?_ (hc := take_of HT_.out (by kernel_rfl)) (hv := by intro w_ hs; have hc9_ := bc10 (blk_below BK9.out hs); have hc3_ := bc10 (blk_below BK3.out hs); go_simp; with_reducible rfl))
 have HBW := below_step HB.out hHeld
 refine oq_ Try.func21 (laws_toAct.calls k a1_0 a1_1 a1_2 _ _ l1_3 a1_4 a1_5 a1_6 a1_7 a1_8 a1_9 _ _ _ _ _ _ _ _ _ _ _ (Kd.C_below HR1_3.out HBW) HC1_3.out AB.out) ?_
 rintro e w1 ⟨v3, rfl, ho, hb⟩
 refine ⟨_, rfl, below_step hHeld hb, fun hH => ?_⟩
 have RY := Aside0.mk (Kd.R_below RA.out hH)
 obtain ⟨V, cv, rfl⟩ := Kd.R_slice ho
 have RT := Aside0.mk ho
 clear ho hb
 simp only [Act.put, List.setIfInBounds_toArray, List.set_cons_zero, List.set_cons_succ]
 refine oq_ Try.func23 (laws_eqAct.calls k b.1 b.2.1 b.2.2.1 _ _ b.2.2.2.1 b.2.2.2.2.1 b.2.2.2.2.2.1 b.2.2.2.2.2.2.1 b.2.2.2.2.2.2.2.1 b.2.2.2.2.2.2.2.2.1 b.2.2.2.2.2.2.2.2.2 b.1 b.2.1 b.2.2.1 _ _ b.2.2.2.1 b.2.2.2.2.1 b.2.2.2.2.2.1 b.2.2.2.2.2.2.1 b.2.2.2.2.2.2.2.1 b.2.2.2.2.2.2.2.2.1 b.2.2.2.2.2.2.2.2.2 _ _ (Kd.R_reads' RY.out).2.2 (Kd.R_reads' RY.out).2.1 (Kd.R_reads' RT.out).2.2 (Kd.R_reads' RT.out).2.1 AE3.out) ?_
 rintro e w3 ⟨rfl, hb⟩
 refine ⟨_, rfl, below_step hH hb, fun hH2 => ?_⟩
 clear RT RY hb
 simp only [Act.put, List.setIfInBounds_toArray, List.set_cons_zero, List.set_cons_succ]
 repeat (first | refine us_ ?_ | refine ps_ ?_)
 refine done_ (done_of HT_.out zK) ?_
 have hb := hH2
 clear HT_ hH hH2 hHeld HBW
 (try replace BK2 := Aside0.mk (blk_below BK2.out hb))
 (try replace BK6 := Aside0.mk (blk_below BK6.out hb))
 (try replace BK8 := Aside0.mk (blk_below BK8.out hb))
 (try replace BK10 := Aside0.mk (blk_below BK10.out hb))
 (try replace BK3 := Aside0.mk (blk_below BK3.out hb))
 (try replace BK9 := Aside0.mk (blk_below BK9.out hb))
 (try replace RW := Aside0.mk (RW.out.below hb))
 (try replace RX := Aside0.mk (RX.out.below hb))
 (try replace RG := Aside0.mk (RG.out.below hb))
 (try replace LA := Aside0.mk (Nat.le_trans LA.out hb.size))
 (try replace RA := Aside0.mk (Kd.R_below RA.out hb))
 replace HB := Aside0.mk (below_step HB.out hb)
 clear hb
 (try clear hcz2)
 (try clear hcz6)
 (try clear hcz8)
 (try clear hcz10)
 (try clear hcz3)
 (try clear hcz9)
 (try have hcz2 := bc4 BK2.out)
 (try have hcz6 := bc4 BK6.out)
 (try have hcz8 := bc4 BK8.out)
 (try have hcz10 := bc4 BK10.out)
 (try have hcz3 := bc10 BK3.out)
 (try have hcz9 := bc10 BK9.out)
 go_wp2_with (first
  | (go_at_call 24; clear TKM; refine (laws_markState.calls k _ _ m.1 _ _ m.2.1 _ _ m.2.2.1 _ _ m.2.2.2 1 _ _ _ _ _ w _ HB.out (Kd.R_tight rfl RX.out.r0) (Kd.R_tight rfl RX.out.r1) (Kd.R_tight rfl RX.out.r2) (Kd.R_tight rfl RX.out.r3) AX.out).mono ?_; rintro e w' ⟨rfl, h0, h1, h2, h3, hB, hK⟩; replace BK2 := Aside0.mk (blk_kept BK2.out hK (RX.out.notS BK2.out (by decide))); replace BK3 := Aside0.mk (blk_kept BK3.out hK (RX.out.notS BK3.out (by decide))); replace BK6 := Aside0.mk (blk_kept BK6.out hK (RX.out.notS BK6.out (by decide))); replace BK8 := Aside0.mk (blk_kept BK8.out hK (RX.out.notS BK8.out (by decide))); replace BK9 := Aside0.mk (blk_kept BK9.out hK (RX.out.notS BK9.out (by decide))); replace BK10 := Aside0.mk (blk_kept BK10.out hK (RX.out.notS BK10.out (by decide))); replace RW := Aside0.mk (RW.out.kept hK (fun k hk => by have h1_ := RX.out.inS k hk; have h2_ := LWX.out; omega)); replace RG := Aside0.mk (RG.out.kept hK (fun k hk => by have h1_ := RX.out.inS k hk; have h2_ := LXG.out; omega)); replace RA := Aside0.mk (Kd.R_kept RA.out hK (fun k hk hs => by have h1_ := RX.out.inS k hs; have h2_ := LXA.out; have h3_ := hk.1; have h4_ := hk.2; omega)); replace LA := Aside0.mk (Nat.le_trans LA.out hK.1); replace RX := Aside0.mk (RX.out.marked hK.1 h0 h1 h2 h3); replace HB := Aside0.mk hB; clear h0 h1 h2 h3 hB hK; (try clear hcz2); (try clear hcz6); (try clear hcz10); (try clear hcz3); (try clear hcz9); (try have hcz2 := bc4 BK2.out); (try have hcz6 := bc4 BK6.out); (try have hcz10 := bc4 BK10.out); (try have hcz3 := bc10 BK3.out); (try have hcz9 := bc10 BK9.out))
  | (go_at_call 25; refine (laws_markAct.calls k b.1 b.2.1 b.2.2.1 _ _ b.2.2.2.1 b.2.2.2.2.1 b.2.2.2.2.2.1 b.2.2.2.2.2.2.1 b.2.2.2.2.2.2.2.1 b.2.2.2.2.2.2.2.2.1 b.2.2.2.2.2.2.2.2.2 x.1 _ _ w _ HB.out (Kd.R_tight rfl RA.out) AY.out).mono ?_; rintro e w' ⟨rfl, h0, hB, hK⟩; replace BK2 := Aside0.mk (blk_kept BK2.out hK (Kd.R_ne RA.out BK2.out (by decide))); replace BK3 := Aside0.mk (blk_kept BK3.out hK (Kd.R_ne RA.out BK3.out (by decide))); replace BK6 := Aside0.mk (blk_kept BK6.out hK (Kd.R_ne RA.out BK6.out (by decide))); replace BK8 := Aside0.mk (blk_kept BK8.out hK (Kd.R_ne RA.out BK8.out (by decide))); replace BK9 := Aside0.mk (blk_kept BK9.out hK (Kd.R_ne RA.out BK9.out (by decide))); replace BK10 := Aside0.mk (blk_kept BK10.out hK (Kd.R_ne RA.out BK10.out (by decide))); replace RW := Aside0.mk (RW.out.kept hK (fun k hk => by have h1_ := RA.out.1 k hk.symm; have h2_ := LWA.out; have h3_ := h1_.1; have h4_ := h1_.2; omega)); replace RX := Aside0.mk (RX.out.kept hK (fun k hk => by have h1_ := RA.out.1 k hk.symm; have h2_ := LXA.out; have h3_ := h1_.1; have h4_ := h1_.2; omega)); replace RG := Aside0.mk (RG.out.kept hK (fun k hk => by have h1_ := RA.out.1 k hk.symm; have h2_ := LAG.out; have h3_ := h1_.1; have h4_ := h1_.2; omega)); replace RA := Aside0.mk (Kd.R_reok rfl h0 RA.out.1); replace LA := Aside0.mk (Nat.le_trans LA.out hK.1); replace HB := Aside0.mk hB; clear h0 hB hK; (try clear hcz2); (try clear hcz6); (try clear hcz10); (try clear hcz3); (try have hcz2 := bc4 BK2.out); (try have hcz6 := bc4 BK6.out); (try have hcz10 := bc4 BK10.out); (try have hcz3 := bc10 BK3.out))
  | (go_at_call 14; refine (laws_eqState.calls k _ _ g.1 _ _ g.2.1 _ _ g.2.2.1 _ _ g.2.2.2.1 _ _ s.1 _ _ s.2.1 _ _ s.2.2.1 _ _ s.2.2.2.1 _ _ (Kd.R_reads' RG.out.r0).2.2 (Kd.R_reads' RG.out.r0).2.1 (Kd.R_reads' RG.out.r1).2.2 (Kd.R_reads' RG.out.r1).2.1 (Kd.R_reads' RG.out.r2).2.2 (Kd.R_reads' RG.out.r2).2.1 (Kd.R_reads' RG.out.r3).2.2 (Kd.R_reads' RG.out.r3).2.1 (Kd.R_reads' RW.out.r0).2.2 (Kd.R_reads' RW.out.r0).2.1 (Kd.R_reads' RW.out.r1).2.2 (Kd.R_reads' RW.out.r1).2.1 (Kd.R_reads' RW.out.r2).2.2 (Kd.R_reads' RW.out.r2).2.1 (Kd.R_reads' RW.out.r3).2.2 (Kd.R_reads' RW.out.r3).2.1 zA).mono ?_; rintro e w' ⟨rfl, hb⟩; (try replace BK2 := Aside0.mk (blk_below BK2.out hb)); (try replace BK6 := Aside0.mk (blk_below BK6.out hb)); (try replace BK10 := Aside0.mk (blk_below BK10.out hb)); (try replace BK3 := Aside0.mk (blk_below BK3.out hb)); (try replace RW := Aside0.mk (RW.out.below hb)); (try replace RG := Aside0.mk (RG.out.below hb)); replace HB := Aside0.mk (below_step HB.out hb); clear hb; (try clear hcz2); (try clear hcz6); (try clear hcz10); (try clear hcz3); (try have hcz2 := bc4 BK2.out); (try have hcz6 := bc4 BK6.out); (try have hcz10 := bc4 BK10.out); (try have hcz3 := bc10 BK3.out))
  | (go_at_call 24; clear TKN; refine (laws_markState.calls k _ _ g.1 _ _ g.2.1 _ _ g.2.2.1 _ _ g.2.2.2.1 1 _ _ _ _ _ w _ HB.out (Kd.R_tight rfl RG.out.r0) (Kd.R_tight rfl RG.out.r1) (Kd.R_tight rfl RG.out.r2) (Kd.R_tight rfl RG.out.r3) AZ.out).mono ?_; rintro e w' ⟨rfl, h0, h1, h2, h3, hB, hK⟩; replace BK2 := Aside0.mk (blk_kept BK2.out hK (RG.out.notS BK2.out (by decide))); replace BK3 := Aside0.mk (blk_kept BK3.out hK (RG.out.notS BK3.out (by decide))); replace BK6 := Aside0.mk (blk_kept BK6.out hK (RG.out.notS BK6.out (by decide))); replace BK10 := Aside0.mk (blk_kept BK10.out hK (RG.out.notS BK10.out (by decide))); replace RW := Aside0.mk (RW.out.kept hK (fun k hk => by have h1_ := RG.out.inS k hk; have h2_ := LWG.out; omega)); replace RG := Aside0.mk (RG.out.marked hK.1 h0 h1 h2 h3); replace HB := Aside0.mk hB; clear h0 h1 h2 h3 hB hK; (try clear hcz2); (try clear hcz6); (try clear hcz10); (try clear hcz3); (try have hcz2 := bc4 BK2.out); (try have hcz6 := bc4 BK6.out); (try have hcz10 := bc4 BK10.out); (try have hcz3 := bc10 BK3.out))
  | (go_at_call 26; have e0 := (Kd.R_reads' RG.out.r0).1; have e1 := (Kd.R_reads' RG.out.r1).1; have e2 := (Kd.R_reads' RG.out.r2).1; have e3 := (Kd.R_reads' RG.out.r3).1; have hh := laws_heldState.calls k _ _ z.2.1 _ _ z.2.2.1 _ _ z.2.2.2.1 _ _ z.2.2.2.2 1 q _ (Kd.R_reads' RG.out.r0).2.2 (Nat.le_trans (Nat.le_of_eq e0.symm) (Kd.R_reads' RG.out.r0).2.1) (Kd.R_reads' RG.out.r1).2.2 (Nat.le_trans (Nat.le_of_eq e1.symm) (Kd.R_reads' RG.out.r1).2.1) (Kd.R_reads' RG.out.r2).2.2 (Nat.le_trans (Nat.le_of_eq e2.symm) (Kd.R_reads' RG.out.r2).2.1) (Kd.R_reads' RG.out.r3).2.2 (Nat.le_trans (Nat.le_of_eq e3.symm) (Kd.R_reads' RG.out.r3).2.1) AQ.out; rw [← e0, ← e1, ← e2, ← e3] at hh; refine hh.mono ?_; clear hh e0 e1 e2 e3; rintro e w' ⟨rfl, hb⟩; (try replace BK2 := Aside0.mk (blk_below BK2.out hb)); (try replace BK6 := Aside0.mk (blk_below BK6.out hb)); (try replace BK10 := Aside0.mk (blk_below BK10.out hb)); (try replace BK3 := Aside0.mk (blk_below BK3.out hb)); (try replace RW := Aside0.mk (RW.out.below hb)); (try replace RG := Aside0.mk (RG.out.below hb)); replace HB := Aside0.mk (below_step HB.out hb); clear hb; (try clear hcz2); (try clear hcz6); (try clear hcz10); (try clear hcz3); (try have hcz2 := bc4 BK2.out); (try have hcz6 := bc4 BK6.out); (try have hcz10 := bc4 BK10.out); (try have hcz3 := bc10 BK3.out))
  )
 refine reg11_ (u1 := .agg #[.slice A0_0 l0_0.length c0_0, .slice A0_1 l0_1.length c0_1, .slice A0_2 l0_2.length c0_2, .slice A0_3 l0_3.length c0_3]) (u2 := .agg #[.int .i64 a1_0, .int .i64 a1_1, .int .i64 a1_2, .slice A1_3 l1_3.length c1_3, .int .i64 a1_4, .string a1_5, .string a1_6, .int .i64 a1_7, .int .i64 a1_8, .int .i64 a1_9]) (R1 := fun v W => ∃ s0 s1 s2 s3, v = .agg #[s0, s1, s2, s3] ∧ ∃ lo hi, Rw w W lo hi s0 s1 s2 s3 m.1 m.2.1 m.2.2.1 m.2.2.2) (R2 := fun v W => ∃ s3, v = .agg #[.int .i64 b.1, .int .i64 b.2.1, .int .i64 b.2.2.1, s3, .int .i64 b.2.2.2.2.1, .string b.2.2.2.2.2.1, .string b.2.2.2.2.2.2.1, .int .i64 b.2.2.2.2.2.2.2.1, .int .i64 b.2.2.2.2.2.2.2.2.1, .int .i64 b.2.2.2.2.2.2.2.2.2] ∧ Kd.R (Kd.int .i64) 3 W w.heap.size (fun _ => True) s3 b.2.2.2.1) (R3 := fun s0 s1 s2 s3 y W => y = .int .i64 g.2.2.2.2 ∧ ∃ lo hi, w'.heap.size ≤ lo ∧ Rw w W lo hi s0 s1 s2 s3 g.1 g.2.1 g.2.2.1 g.2.2.2.1) ?ic1 ?im1 ?ic2 ?im2 ?ic3 ?im3 ?im4 ?ir0 ?ir2 ?iQ
 case ic1 =>
  intro W hW
  have HBW := below_step HB.out hW
  refine (laws_toState.calls k _ _ l0_0 _ _ l0_1 _ _ l0_2 _ _ l0_3 _ _ _ _ _ (Kd.C_below HR0_0.out HBW) HC0_0.out (Kd.C_below HR0_1.out HBW) HC0_1.out (Kd.C_below HR0_2.out HBW) HC0_2.out (Kd.C_below HR0_3.out HBW) HC0_3.out AM.out).mono ?_
  rintro e w' ⟨v0, v1, v2, v3, rfl, ho0, ho1, ho2, ho3, hb⟩
  exact ⟨_, rfl, ⟨_, _, _, _, rfl, _, _, Rw.of (w := w) ho0 ho1 ho2 ho3 HBW.size⟩, hb⟩
 case im1 =>
  rintro v W W' ⟨s0, s1, s2, s3, rfl, lo, hi, h⟩ hb
  exact ⟨_, _, _, _, rfl, lo, hi, h.below hb⟩
 case ic2 =>
  intro W hW
  have HBW := below_step HB.out hW
  refine (laws_toAct.calls k a1_0 a1_1 a1_2 _ _ l1_3 a1_4 a1_5 a1_6 a1_7 a1_8 a1_9 _ _ _ _ _ _ _ _ _ _ _ (Kd.C_below HR1_3.out HBW) HC1_3.out AB.out).mono ?_
  rintro e w' ⟨v3, rfl, ho, hb⟩
  exact ⟨_, rfl, ⟨_, rfl, Kd.R_lower ho HBW.size⟩, hb⟩
 case im2 =>
  rintro v W W' ⟨s3, rfl, h⟩ hb
  exact ⟨_, rfl, Kd.R_below h hb⟩
 case ic3 =>
  rintro W v1 v2 hW ⟨s0, s1, s2, s3, rfl, lo, hi, hR⟩ ⟨u3, rfl, hA⟩
  have HBW := below_step HB.out hW
  obtain ⟨X0, X1, X2, X3, x0, x1, x2, x3, rfl, rfl, rfl, rfl⟩ := hR.shape
  obtain ⟨U, cu, rfl⟩ := Kd.R_slice hA
  refine (impl_DoAct.calls k _ _ _ _ _ _ _ _ m.1 m.2.1 m.2.2.1 m.2.2.2 b.1 b.2.1 b.2.2.1 _ _ b.2.2.2.1 b.2.2.2.2.1 b.2.2.2.2.2.1 b.2.2.2.2.2.2.1 b.2.2.2.2.2.2.2.1 b.2.2.2.2.2.2.2.2.1 b.2.2.2.2.2.2.2.2.2 _ _ _ _ _ _ (Kd.R_reads' hR.r0).2.2 (Kd.R_reads' hR.r0).2.1 (Kd.R_reads' hR.r1).2.2 (Kd.R_reads' hR.r1).2.1 (Kd.R_reads' hR.r2).2.2 (Kd.R_reads' hR.r2).2.1 (Kd.R_reads' hR.r3).2.2 (Kd.R_reads' hR.r3).2.1 (Kd.R_reads' hA).2.2 (Kd.R_reads' hA).2.1 AG.out).mono ?_
  rintro e w' ⟨v0, v1, v2, v3, rfl, ho0, ho1, ho2, ho3, hb⟩
  have hr := Rw.of (w := w) ho0 ho1 ho2 ho3 HBW.size
  exact ⟨_, _, _, _, _, rfl, hr.one, ⟨rfl, _, _, hW.size, hr⟩, hb⟩
 case im3 =>
  rintro s0 s1 s2 s3 y W W' ⟨rfl, lo, hi, hl, h⟩ hb
  exact ⟨rfl, lo, hi, hl, h.below hb⟩
 case im4 =>
  rintro s0 s1 s2 s3 y W g cs ⟨rfl, lo, hi, hl, h⟩ hg
  exact ⟨rfl, lo, hi, hl, h.sets hg⟩
 case ir0 => intro W hW; have hc_ := bc4 (blk_below BK2.out hW); go_simp
 case ir2 => intro W hW; have hc_ := bc10 (blk_below BK3.out hW); go_simp
 intro v1 v2 s0 s1 s2 s3 y g15 W15 hR3 hg hlt hgw hb
 obtain ⟨rfl, lH, hH, hlH, hrH⟩ := hR3
 have RH_ := Aside0.mk hrH
 clear hrH hlt hgw
 have BK15_ := Aside0.mk hg
 clear hg
 (try replace BK6 := Aside0.mk (blk_below BK6.out hb))
 (try replace BK10 := Aside0.mk (blk_below BK10.out hb))
 (try replace RW := Aside0.mk (RW.out.below hb))
 (try replace RG := Aside0.mk (RG.out.below hb))
 replace HB := Aside0.mk (below_step HB.out hb)
 clear hb
 have RH := RH_; have BK15 := BK15_; clear RH_ BK15_
 obtain ⟨H0, H1, H2, H3, Hc0, Hc1, Hc2, Hc3, rfl, rfl, rfl, rfl⟩ := RH.out.shape
 (try clear hcz6)
 (try clear hcz10)
 (try clear hcz15)
 (try have hcz6 := bc4 BK6.out)
 (try have hcz10 := bc4 BK10.out)
 (try have hcz15 := bc4 BK15.out)
 simp only [Act.put, List.setIfInBounds_toArray, List.set_cons_zero, List.set_cons_succ]
 go_wp2_with (first
  | (go_at_call 14; refine (laws_eqState.calls k _ _ g.1 _ _ g.2.1 _ _ g.2.2.1 _ _ g.2.2.2.1 _ _ s.1 _ _ s.2.1 _ _ s.2.2.1 _ _ s.2.2.2.1 _ _ (Kd.R_reads' RH.out.r0).2.2 (Kd.R_reads' RH.out.r0).2.1 (Kd.R_reads' RH.out.r1).2.2 (Kd.R_reads' RH.out.r1).2.1 (Kd.R_reads' RH.out.r2).2.2 (Kd.R_reads' RH.out.r2).2.1 (Kd.R_reads' RH.out.r3).2.2 (Kd.R_reads' RH.out.r3).2.1 (Kd.R_reads' RW.out.r0).2.2 (Kd.R_reads' RW.out.r0).2.1 (Kd.R_reads' RW.out.r1).2.2 (Kd.R_reads' RW.out.r1).2.1 (Kd.R_reads' RW.out.r2).2.2 (Kd.R_reads' RW.out.r2).2.1 (Kd.R_reads' RW.out.r3).2.2 (Kd.R_reads' RW.out.r3).2.1 zA).mono ?_; rintro e w' ⟨rfl, hb⟩; (try replace BK6 := Aside0.mk (blk_below BK6.out hb)); (try replace BK10 := Aside0.mk (blk_below BK10.out hb)); (try replace BK15 := Aside0.mk (blk_below BK15.out hb)); (try replace RW := Aside0.mk (RW.out.below hb)); (try replace RG := Aside0.mk (RG.out.below hb)); (try replace RH := Aside0.mk (RH.out.below hb)); replace HB := Aside0.mk (below_step HB.out hb); clear hb; (try clear hcz6); (try clear hcz10); (try clear hcz15); (try have hcz6 := bc4 BK6.out); (try have hcz10 := bc4 BK10.out); (try have hcz15 := bc4 BK15.out))
  | (go_at_call 26; have e0 := (Kd.R_reads' RG.out.r0).1; have e1 := (Kd.R_reads' RG.out.r1).1; have e2 := (Kd.R_reads' RG.out.r2).1; have e3 := (Kd.R_reads' RG.out.r3).1; have hh := laws_heldState.calls k _ _ z.2.1 _ _ z.2.2.1 _ _ z.2.2.2.1 _ _ z.2.2.2.2 1 q _ (Kd.R_reads' RG.out.r0).2.2 (Nat.le_trans (Nat.le_of_eq e0.symm) (Kd.R_reads' RG.out.r0).2.1) (Kd.R_reads' RG.out.r1).2.2 (Nat.le_trans (Nat.le_of_eq e1.symm) (Kd.R_reads' RG.out.r1).2.1) (Kd.R_reads' RG.out.r2).2.2 (Nat.le_trans (Nat.le_of_eq e2.symm) (Kd.R_reads' RG.out.r2).2.1) (Kd.R_reads' RG.out.r3).2.2 (Nat.le_trans (Nat.le_of_eq e3.symm) (Kd.R_reads' RG.out.r3).2.1) AQ.out; rw [← e0, ← e1, ← e2, ← e3] at hh; refine hh.mono ?_; clear hh e0 e1 e2 e3; rintro e w' ⟨rfl, hb⟩; (try replace BK6 := Aside0.mk (blk_below BK6.out hb)); (try replace BK10 := Aside0.mk (blk_below BK10.out hb)); (try replace BK15 := Aside0.mk (blk_below BK15.out hb)); (try replace RW := Aside0.mk (RW.out.below hb)); (try replace RG := Aside0.mk (RG.out.below hb)); (try replace RH := Aside0.mk (RH.out.below hb)); replace HB := Aside0.mk (below_step HB.out hb); clear hb; (try clear hcz6); (try clear hcz10); (try clear hcz15); (try have hcz6 := bc4 BK6.out); (try have hcz10 := bc4 BK10.out); (try have hcz15 := bc4 BK15.out))
  )
 go_ret
 exact ⟨rfl, HB.out⟩
end Go.Proofs.Ytbanogkoaplcdaa.QDo
