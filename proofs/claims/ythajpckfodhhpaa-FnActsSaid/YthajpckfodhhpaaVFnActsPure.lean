/- Of every list of bytes that is drawn from, the law on acts answers true.
No condition beyond those of the given row. -/
import Derived.Test.YthajpckfodhhpaaVFnActsQRAx0
import Derived.Test.YthajpckfodhhpaaVFnActsQRAx1
import Derived.Test.YthajpckfodhhpaaVFnActsQRAx2
import Derived.Test.YthajpckfodhhpaaVFnActsQRAx3
import Derived.Test.YthajpckfodhhpaaVFnActsQRAx4
import Derived.Test.YthajpckfodhhpaaVFnActsQRAx5
import Derived.Test.YthajpckfodhhpaaVFnActsQRAx6
import Derived.Test.YthajpckfodhhpaaVFnActsQRAx7
import Derived.Test.YthajpckfodhhpaaVFnActsQRAx8
import Derived.Test.YthajpckfodhhpaaVFnActsQRAx9
import Derived.Test.YthajpckfodhhpaaVFnActsQRAx10
import Derived.Test.YthajpckfodhhpaaVFnActsQRAx11
import Derived.Test.YthajpckfodhhpaaVFnActsQRAx12
import Derived.Test.YthajpckfodhhpaaVFnActsQRAx13
import Derived.Test.YthajpckfodhhpaaVFnActsQRAx14
import Derived.Test.YthajpckfodhhpaaVFnActsQRAx15
import Derived.Test.YthajpckfodhhpaaVFnActsQRAx16
import Derived.Test.YthajpckfodhhpaaVFnActsQRAx17
import Derived.Test.YthajpckfodhhpaaVFnActsQRAx18
import Derived.Test.YthajpckfodhhpaaVFnActsQRAx19
import Derived.Test.YthajpckfodhhpaaVFnActsQRAx20
import Derived.Test.YthajpckfodhhpaaVFnActsQRAx21
import Derived.Test.YthajpckfodhhpaaVFnActsQRAx22
import Derived.Test.YthajpckfodhhpaaVFnActsSt
import Derived.Test.YthajpckfodhhpaaVFnActsPlain
namespace Go.Proofs.Ythajpckfodhhpaa.Pure
open Go.RowKit Go.Proofs.Ythajpckfodhhpaa.QRA Go.Proofs.Ythajpckfodhhpaa.Plain Go.Proofs.YthajpckfodhhpaaW.PrintWords Go.Proofs.YthajpckfodhhpaaW.PrintLast Go.Proofs.YthajpckfodhhpaaW.PrintMore
set_option linter.unusedSimpArgs false
set_option linter.unusedVariables false
def At (l : List Int) (p : Int) : Prop := 0 ≤ p ∧ p ≤ (l.length : Int)
theorem mask255 (n : Int) : Go.bits .and .i64 n 255 = n % 256 := by
  have h : (BitVec.ofInt 64 255).toNat = 2 ^ 8 - 1 := by decide
  have key : (BitVec.ofInt 64 n &&& BitVec.ofInt 64 255).toNat = (n % ((2 ^ 64 : Nat) : Int)).toNat % 2 ^ 8 := by
    rw [BitVec.toNat_and, BitVec.toNat_ofInt, h, Nat.and_two_pow_sub_one_eq_mod]
  show IntKind.i64.wrap ((BitVec.ofInt 64 n &&& BitVec.ofInt 64 255).toNat : Nat) = n % 256
  rw [key, IntKind.wrap_i64]
  omega
theorem new_l0 (l : List Int) (hl : l.length ≤ 1048576) : ∀ (d i : Nat) (x : Int), i + d = l.length → ∃ y, Ev (fun k => spec_l01New.l0 k l x (i : Int)) (l, 0, y)
  | 0, i, x, hi => ⟨x, by
    refine Ev.step (fun k => rfl) ?_
    simp only [spec_l01New.l0, if_neg (show ¬ (i : Int) < (l.length : Int) by omega)]
    exact Ev.now _⟩
  | d + 1, i, x, hi => by
    by_cases c : (i : Int) < 4000
    · obtain ⟨y, hy⟩ := new_l0 l hl d (i + 1) (Go.bits .and .i64 (wrap64 ((wrap64 ((wrap64 (x * 131)) + (wrap64 (rd l (i : Int))))) + 7)) 1073741823) (by omega)
      refine ⟨y, Ev.step (fun k => rfl) ?_⟩
      simp only [spec_l01New.l0, if_pos (show (i : Int) < (l.length : Int) by omega), if_pos c, if_pos (show (0 : Int) ≤ (i : Int) by omega), wr i (by omega)]
      exact hy
    · refine ⟨x, Ev.step (fun k => rfl) ?_⟩
      simp only [spec_l01New.l0, if_pos (show (i : Int) < (l.length : Int) by omega), if_neg c]
      exact Ev.now _
theorem new_ex (l : List Int) (hl : l.length ≤ 1048576) : ∃ y, Ev (fun k => spec_l01New.f k l) (l, 0, y) := new_l0 l hl l.length 0 _ (by omega)
theorem byte_ex (l : List Int) (hl : l.length ≤ 1048576) (p x : Int) (hp : At l p) : ∃ b q y, spec_l01Byte.f l p x = some (b, q, y) ∧ 0 ≤ b ∧ b ≤ 255 ∧ At l q := by
  unfold spec_l01Byte.f
  unfold At at hp ⊢
  by_cases c : p < (l.length : Int)
  · simp only [if_pos c, if_pos hp.1, mask255, wi (n := p + 1) (by omega)]
    exact ⟨_, _, _, rfl, by omega, by omega, by omega, by omega⟩
  · simp only [if_neg c, mask255]
    exact ⟨_, _, _, rfl, by omega, by omega, hp⟩
theorem tmod_lt {v n : Int} (hv : 0 ≤ v) (hn : 0 < n) : 0 ≤ Int.tmod v n ∧ Int.tmod v n < n := by
  rw [Int.tmod_eq_emod_of_nonneg hv]
  exact ⟨Int.emod_nonneg _ (by omega), Int.emod_lt_of_pos _ hn⟩
theorem below_ex (l : List Int) (hl : l.length ≤ 1048576) (p x n : Int) (hp : At l p) : ∃ b q y, spec_l01Below.f l p x n = some (b, q, y) ∧ 0 ≤ b ∧ (0 < n → b < n) ∧ (n ≤ 0 → b = 0) ∧ At l q := by
  unfold spec_l01Below.f
  by_cases c : n ≤ 0
  · simp only [if_pos c]
    exact ⟨_, _, _, rfl, by omega, by omega, fun _ => rfl, hp⟩
  · simp only [if_neg c]
    by_cases c2 : n ≤ 256
    · obtain ⟨b, q, y, h, h0, h1, h2⟩ := byte_ex l hl p x hp
      simp only [if_pos c2, h, Option.bind_some, if_neg (show ¬ n = 0 by omega)]
      have := tmod_lt h0 (show 0 < n by omega)
      exact ⟨_, _, _, rfl, this.1, fun _ => this.2, by omega, h2⟩
    · obtain ⟨b1, q1, y1, e1, g1, k1, p1⟩ := byte_ex l hl p x hp
      obtain ⟨b2, q2, y2, e2, g2, k2, p2⟩ := byte_ex l hl q1 y1 p1
      obtain ⟨b3, q3, y3, e3, g3, k3, p3⟩ := byte_ex l hl q2 y2 p2
      obtain ⟨b4, q4, y4, e4, g4, k4, p4⟩ := byte_ex l hl q3 y3 p3
      simp only [if_neg c2, e1, e2, e3, e4, Option.bind_some, if_neg (show ¬ n = 0 by omega)]
      have := tmod_lt (v := wrap64 ((wrap64 ((wrap64 ((wrap64 (b1 * 16777216)) + (wrap64 (b2 * 65536)))) + (wrap64 (b3 * 256)))) + b4)) (by unfold wrap64; omega) (show 0 < n by omega)
      exact ⟨_, _, _, rfl, this.1, fun _ => this.2, by omega, p4⟩
def knowB (l : List Int) : Bool := (l.all fun x => inB x 0 1000) && ((l.length : Int) == 3)
theorem all_drop (l : List Int) (i : Nat) (h : i < l.length) : ((l.drop i).all fun x => inB x 0 1000) = (inB (rd l (i : Int)) 0 1000 && (l.drop (i + 1)).all fun x => inB x 0 1000) := by
  rw [drop_rd l i h]; rfl
theorem know_l0 (l : List Int) (hl : l.length ≤ 1048576) : ∀ (d i : Nat) (out : List Int) (p x : Int), i + d = 3 → out.length = i → (∀ v ∈ out, 0 ≤ v ∧ v < 5) → At l p → ∃ r q y, Ev (fun k => spec_l04Know.l0 k out (i : Int) l p x) (r, q, y) ∧ r.length = 3 ∧ (∀ v ∈ r, 0 ≤ v ∧ v < 5) ∧ At l q
  | 0, i, out, p, x, hi, ho, hv, hp => ⟨out, p, x, by
    refine Ev.step (fun k => rfl) ?_
    simp only [spec_l04Know.l0, if_neg (show ¬ (i : Int) < 3 by omega)]
    exact Ev.now _, by omega, hv, hp⟩
  | d + 1, i, out, p, x, hi, ho, hv, hp => by
    obtain ⟨b, q, y, e, g, k, _, p1⟩ := below_ex l hl p x 5 hp
    have hk := k (by omega)
    obtain ⟨r, q2, y2, er, h⟩ := know_l0 l hl d (i + 1) (out ++ [b]) q y (by omega) (by rw [List.length_append, ho]; rfl) (by
      intro v hm
      rcases List.mem_append.1 hm with h | h
      · exact hv v h
      · rw [List.mem_singleton.1 h]; exact ⟨g, hk⟩) p1
    refine ⟨r, q2, y2, Ev.step (fun k => rfl) ?_, h⟩
    simp only [spec_l04Know.l0, if_pos (show (i : Int) < 3 by omega), e, Option.bind_some, if_pos (show out.length < 17592186044416 by omega), wr i (by omega)]
    exact er
def sm (x : Int) : Prop := 0 ≤ x ∧ x < 5
theorem know_ex (l : List Int) (hl : l.length ≤ 1048576) (p x : Int) (hp : At l p) : ∃ a b c q y, Ev (fun k => spec_l04Know.f k l p x) ([a, b, c], q, y) ∧ sm a ∧ sm b ∧ sm c ∧ At l q := by
  obtain ⟨r, q, y, e, h3, hv, hq⟩ := know_l0 l hl 3 0 [] p x (by omega) rfl (by simp) hp
  match r, h3 with
  | [a, b, c], _ => exact ⟨a, b, c, q, y, e, hv a (by simp), hv b (by simp), hv c (by simp), hq⟩
theorem pick_ex (l : List Int) (hl : l.length ≤ 1048576) (p x : Int) (hp : At l p) (m : List Int) (h0 : 0 < m.length) : ∃ v q y, spec_l01PickInt.f l p x m = some (v, q, y) ∧ At l q := by
  unfold spec_l01PickInt.f
  obtain ⟨a, q, y, e, g, k, _, p1⟩ := below_ex l hl p x (m.length : Int) hp
  have hk := k (by omega)
  simp only [e, Option.bind_some, if_pos g, if_pos hk]
  exact ⟨_, _, _, rfl, p1⟩
theorem text_l0 (l : List Int) (hl : l.length ≤ 1048576) (n : Int) (hn : n ≤ 5000) : ∀ (d i : Nat) (out : List Int) (p x : Int), (i : Int) + d = n → out.length = i → At l p → ∃ s q y, Ev (fun k => spec_l01Text.l0 k n out (i : Int) l p x) (s, q, y) ∧ (s.size : Int) = n ∧ At l q
  | 0, i, out, p, x, hi, ho, hp => ⟨strOfNums out, p, x, by
    refine Ev.step (fun k => rfl) ?_
    simp only [spec_l01Text.l0, if_neg (show ¬ (i : Int) < n by omega)]
    exact Ev.now _, by rw [strOfNums_size]; omega, hp⟩
  | d + 1, i, out, p, x, hi, ho, hp => by
    obtain ⟨b, q, y, e, _, _, h2⟩ := byte_ex l hl p x hp
    obtain ⟨s, q2, y2, e2, hs, hq⟩ := text_l0 l hl n hn d (i + 1) (out ++ [b % 256]) q y (by omega) (by rw [List.length_append, ho]; rfl) h2
    refine ⟨s, q2, y2, Ev.step (fun k => rfl) ?_, hs, hq⟩
    simp only [spec_l01Text.l0, if_pos (show (i : Int) < n by omega), e, Option.bind_some, if_pos (show out.length < 140737488355328 by omega), wr i (by omega)]
    exact e2
theorem text_ex (l : List Int) (hl : l.length ≤ 1048576) (p x n : Int) (hp : At l p) (hn : 0 ≤ n ∧ n ≤ 5000) : ∃ s q y, Ev (fun k => spec_l01Text.f k l p x n) (s, q, y) ∧ (s.size : Int) = n ∧ At l q := by
  obtain ⟨s, q, y, e, hs, hq⟩ := text_l0 l hl n hn.2 n.toNat 0 [] p x (by omega) rfl hp
  refine ⟨s, q, y, ?_, hs, hq⟩
  unfold spec_l01Text.f
  simp only [if_neg (show ¬ n > 5000 by omega)]
  refine Ev.step (fun k => rfl) ?_
  simp only [spec_l01Text.j0]
  exact e
theorem spec_in (x lo hi : Int) : spec_l01In.f x lo hi = some (inB x lo hi) := in_ite x lo hi
theorem spec_KnowOk_l0 (l : List Int) (hl : l.length ≤ 140737488351232) : ∀ d i, i + d = l.length → Ev (fun k => spec_KnowOk.l0 k l (i : Int)) (((l.drop i).all fun x => inB x 0 1000) && ((l.length : Int) == 3))
  | 0, i, hi => by
    refine Ev.step (fun k => rfl) ?_
    simp only [spec_KnowOk.l0, if_neg (show ¬ (i : Int) < (l.length : Int) by omega), List.drop_eq_nil_of_le (show l.length ≤ i by omega), List.all_nil, Bool.true_and]
    exact Ev.now _
  | d + 1, i, hi => by
    refine Ev.step (fun k => rfl) ?_
    have ih := spec_KnowOk_l0 l hl d (i + 1) (by omega)
    simp only [spec_KnowOk.l0, if_pos (show (i : Int) < (l.length : Int) by omega), if_pos (show (0 : Int) ≤ (i : Int) by omega), wr i (by omega), spec_in, Option.bind_some, all_drop l i (by omega)]
    cases inB (rd l (i : Int)) 0 1000
    · exact Ev.now _
    · exact ih
theorem spec_KnowOk_ev (l : List Int) (hl : l.length ≤ 140737488351232) : Ev (fun k => spec_KnowOk.f k l) (knowB l) := spec_KnowOk_l0 l hl l.length 0 (by omega)
def dotB (r s : Int) : Bool := if inB r 0 2 = true then inB s 1 1000 else false
theorem spec_DotOk_eq (r s : Int) : spec_DotOk.f r s = some (dotB r s) := by
  unfold spec_DotOk.f dotB
  simp only [spec_in, Option.bind_some]
  split <;> rfl
def knowsB (l : List Int) (r s : Int) : Bool := if knowB l = true then (if dotB r s = true then decide (s ≤ rd l r) else false) else false
theorem spec_Knows_ev (l : List Int) (r s : Int) (hl : l.length ≤ 140737488351232) : Ev (fun k => spec_Knows.f k l r s) (knowsB l r s) := by
  unfold spec_Knows.f knowsB
  refine Ev.bind (spec_KnowOk_ev l hl) ?_
  by_cases ka : knowB l = true
  · simp only [if_pos ka, spec_DotOk_eq, Option.bind_some]
    by_cases kd : dotB r s = true
    · simp only [if_pos kd]
      have h1 : 0 ≤ r ∧ r ≤ 2 := by
        unfold dotB at kd
        by_cases c : inB r 0 2 = true
        · exact inB_true.1 c
        · simp [c] at kd
      have h2 : (l.length : Int) = 3 := by
        unfold knowB at ka
        simp only [Bool.and_eq_true, beq_iff_eq] at ka
        exact ka.2
      simp only [if_pos h1.1, if_pos (show r < (l.length : Int) by omega)]
      exact Ev.now _
    · simp only [if_neg kd]; exact Ev.now _
  · simp only [if_neg ka]; exact Ev.now _
theorem impl_in (x lo hi : Int) : impl_within.f x lo hi = some (inB x lo hi) := in_ite x lo hi
theorem dot4_ex (l : List Int) (hl : l.length ≤ 1048576) (p x : Int) (hp : At l p) : ∃ r s q y, spec_l04Dot.f l p x = some (r, s, q, y) ∧ 0 ≤ r ∧ r < 3 ∧ 1 ≤ s ∧ s ≤ 5 ∧ At l q := by
  unfold spec_l04Dot.f
  obtain ⟨n1, q1, y1, e1, g1, k1, _, p1⟩ := below_ex l hl p x 3 hp
  obtain ⟨n2, q2, y2, e2, g2, k2, _, p2⟩ := below_ex l hl q1 y1 5 p1
  have h1 := k1 (by omega)
  have h2 := k2 (by omega)
  simp only [e1, e2, Option.bind_some, wi (n := 1 + n2) (by omega)]
  exact ⟨_, _, _, _, rfl, by omega, by omega, by omega, by omega, p2⟩
theorem pickT_ex (l : List Int) (hl : l.length ≤ 1048576) (p x : Int) (hp : At l p) (m : List ByteArray) (h0 : 0 < m.length) (hm : ∀ s ∈ m, s.size ≤ 9) : ∃ v q y, spec_l01Pick.f l p x m = some (v, q, y) ∧ v.size ≤ 9 ∧ At l q := by
  unfold spec_l01Pick.f
  obtain ⟨a, q, y, e, g, k, _, p1⟩ := below_ex l hl p x (m.length : Int) hp
  have hk := k (by omega)
  simp only [e, Option.bind_some, if_pos g, if_pos hk]
  refine ⟨_, _, _, rfl, ?_, p1⟩
  apply hm
  unfold rdOf
  rw [getD_get m a.toNat _ (by omega)]
  exact List.getElem_mem _
theorem actj1_ex (l : List Int) (hl : l.length ≤ 1048576) (p x : Int) (hp : At l p) (a b c : Int) (kn : List Int) (hk : kn.length = 3) (d : Int) (s t : ByteArray) (e f g : Int) :
    ∃ d' f' g' q y, Ev (fun k => spec_l05Act.j1 k l p x a b c kn d s t e f g) (a, b, c, kn, d', s, t, e, f', g', q, y) ∧ At l q := by
  by_cases c1 : d ≥ 6
  · obtain ⟨r1, r2, q1, y1, e1, _, _, _, _, p1⟩ := dot4_ex l hl p x hp
    have h2 := spec_Knows_ev kn r1 r2 (by omega)
    by_cases c2 : knowsB kn r1 r2 = true
    · refine ⟨d, r1, r2, q1, y1, Ev.step (fun k => rfl) ?_, p1⟩
      simp only [spec_l05Act.j1, if_pos c1, e1, Option.bind_some]
      refine Ev.bind h2 ?_
      simp only [if_pos c2]
      exact Ev.now _
    · by_cases c3 : d = 7
      · refine ⟨6, f, g, q1, y1, Ev.step (fun k => rfl) ?_, p1⟩
        simp only [spec_l05Act.j1, if_pos c1, e1, Option.bind_some]
        refine Ev.bind h2 ?_
        simp only [if_neg c2, if_pos c3]
        exact Ev.now _
      · refine ⟨d, f, g, q1, y1, Ev.step (fun k => rfl) ?_, p1⟩
        simp only [spec_l05Act.j1, if_pos c1, e1, Option.bind_some]
        refine Ev.bind h2 ?_
        simp only [if_neg c2, if_neg c3]
        exact Ev.now _
  · refine ⟨d, f, g, p, x, Ev.step (fun k => rfl) ?_, hp⟩
    simp only [spec_l05Act.j1, if_neg c1]
    exact Ev.now _
theorem valued_eq (d : Int) : ∃ b, spec_l05Valued.f d = some b := by
  unfold spec_l05Valued.f
  split
  · exact ⟨_, rfl⟩
  · split <;> exact ⟨_, rfl⟩
theorem actj0_ex (l : List Int) (hl : l.length ≤ 1048576) (p x : Int) (hp : At l p) (a b c : Int) (kn : List Int) (hk : kn.length = 3) (d : Int) (s t : ByteArray) (e f g : Int) :
    ∃ d' e' f' g' q y, Ev (fun k => spec_l05Act.j0 k l p x a b c kn d s t e f g) (a, b, c, kn, d', s, t, e', f', g', q, y) ∧ At l q := by
  obtain ⟨v, hv⟩ := valued_eq d
  by_cases c1 : v = true
  · obtain ⟨w, q1, y1, e1, p1⟩ := pick_ex l hl p x hp [0, 1, 7, 999999] (by simp)
    obtain ⟨d', f', g', q, y, h, hq⟩ := actj1_ex l hl q1 y1 p1 a b c kn hk d s t w f g
    refine ⟨d', w, f', g', q, y, Ev.step (fun k => rfl) ?_, hq⟩
    simp only [spec_l05Act.j0, hv, Option.bind_some, if_pos c1, e1]
    exact h
  · obtain ⟨d', f', g', q, y, h, hq⟩ := actj1_ex l hl p x hp a b c kn hk d s t e f g
    refine ⟨d', e, f', g', q, y, Ev.step (fun k => rfl) ?_, hq⟩
    simp only [spec_l05Act.j0, hv, Option.bind_some, if_neg c1]
    exact h
theorem act_ex (l : List Int) (hl : l.length ≤ 1048576) (p x : Int) (hp : At l p) :
    ∃ a b c kn d s t e f g q y, Ev (fun k => spec_l05Act.f k l p x) (a, b, c, kn, d, s, t, e, f, g, q, y) ∧ kn.length = 3 ∧ s.size ≤ 9 ∧ t.size ≤ 9 ∧ At l q := by
  obtain ⟨r, s, q1, y1, e1, r0, r1, s0, s1, p1⟩ := dot4_ex l hl p x hp
  obtain ⟨tm, q2, y2, e2, g2, k2, _, p2⟩ := below_ex l hl q1 y1 9 p1
  obtain ⟨k0, k1, k3, q3, y3, e3, _, _, _, p3⟩ := know_ex l hl q2 y2 p2
  obtain ⟨kd, q4, y4, e4, g4, k4, _, p4⟩ := below_ex l hl q3 y3 7 p3
  have hk4 := k4 (by omega)
  obtain ⟨ob, q5, y5, e5, z5, p5⟩ := pickT_ex l hl q4 y4 p4 [(⟨#[97]⟩ : ByteArray), (⟨#[98]⟩ : ByteArray), (⟨#[116, 97, 108, 108, 121]⟩ : ByteArray)] (by simp) (by intro s hs; simp at hs; rcases hs with rfl | rfl | rfl <;> decide)
  have hlen : (([k0, k1, k3] : List Int).set r.toNat (wrap64 (s - 1))).length = 3 := by simp
  have hin : spec_l05Keyed.f (wrap64 (1 + kd)) = some (inB (wrap64 (1 + kd)) 2 5) := by
    unfold spec_l05Keyed.f spec_l01In.f
    rw [in_ite]; rfl
  by_cases c : inB (wrap64 (1 + kd)) 2 5 = true
  · obtain ⟨ky, q6, y6, e6, z6, p6⟩ := pickT_ex l hl q5 y5 p5 [(⟨#[120]⟩ : ByteArray), (⟨#[121]⟩ : ByteArray), (⟨#[122, 111, 111]⟩ : ByteArray)] (by simp) (by intro s hs; simp at hs; rcases hs with rfl | rfl | rfl <;> decide)
    obtain ⟨d', e', f', g', q, y, h, hq⟩ := actj0_ex l hl q6 y6 p6 r s (wrap64 (1 + tm)) _ hlen (wrap64 (1 + kd)) ob ky 0 0 0
    refine ⟨r, s, wrap64 (1 + tm), _, d', ob, ky, e', f', g', q, y, ?_, hlen, z5, z6, hq⟩
    unfold spec_l05Act.f spec_l05Obj.f spec_l05Key.f
    simp only [e1, e2, Option.bind_some]
    refine Ev.bind e3 ?_
    simp only [e4, e5, Option.bind_some, if_pos r0, if_pos (show r < (([k0, k1, k3] : List Int).length : Int) by simp; omega), hin, if_pos c, e6]
    exact h
  · obtain ⟨d', e', f', g', q, y, h, hq⟩ := actj0_ex l hl q5 y5 p5 r s (wrap64 (1 + tm)) _ hlen (wrap64 (1 + kd)) ob (⟨#[]⟩ : ByteArray) 0 0 0
    refine ⟨r, s, wrap64 (1 + tm), _, d', ob, (⟨#[]⟩ : ByteArray), e', f', g', q, y, ?_, hlen, z5, by decide, hq⟩
    unfold spec_l05Act.f spec_l05Obj.f
    simp only [e1, e2, Option.bind_some]
    refine Ev.bind e3 ?_
    simp only [e4, e5, Option.bind_some, if_pos r0, if_pos (show r < (([k0, k1, k3] : List Int).length : Int) by simp; omega), hin, if_neg c]
    exact h
theorem any5_ex (l : List Int) (hl : l.length ≤ 1048576) (p x : Int) (hp : At l p) :
    ∃ a b c kn d s t e f g q y, Ev (fun k => spec_l05Any.f k l p x) (a, b, c, kn, d, s, t, e, f, g, q, y) ∧ kn.length ≤ 4 ∧ s.size ≤ 9 ∧ t.size ≤ 9 ∧ At l q := by
  obtain ⟨n, q1, y1, e1, g1, k1, _, p1⟩ := below_ex l hl p x 12 hp
  obtain ⟨v, q2, y2, e2, g2, k2, _, p2⟩ := below_ex l hl q1 y1 60 p1
  obtain ⟨a, b, c, kn, d, s, t, e, f, g, q, y, h, hk, hs, ht, hq⟩ := act_ex l hl q2 y2 p2
  have hk2 := k2 (by omega)
  have m3 := tmod_lt g2 (show (0 : Int) < 3 by omega)
  unfold spec_l05Any.f spec_l05Copy.f
  simp only [e1, e2, Option.bind_some]
  have hnil : ([] : List Int).length + kn.length < 17592186044416 := by simp [hk]
  by_cases c0 : n = 0
  · exact ⟨_, _, _, _, _, _, _, _, _, _, _, _, Ev.bind h (by simp only [if_pos hnil, Option.bind_some, if_pos c0]; exact Ev.now _), by simp [hk], hs, ht, hq⟩
  by_cases c1 : n = 1
  · exact ⟨_, _, _, _, _, _, _, _, _, _, _, _, Ev.bind h (by simp only [if_pos hnil, Option.bind_some, if_neg c0, if_pos c1, if_pos m3.1, if_pos (show Int.tmod v 3 < (([0, 10000, 10001] : List Int).length : Int) by simp; omega)]; exact Ev.now _), by simp [hk], hs, ht, hq⟩
  by_cases c2 : n = 2
  · exact ⟨_, _, _, _, _, _, _, _, _, _, _, _, Ev.bind h (by simp only [if_pos hnil, Option.bind_some, if_neg c0, if_neg c1, if_pos c2]; exact Ev.now _), by simp [hk], hs, ht, hq⟩
  by_cases c3 : n = 3
  · refine ⟨_, _, _, _, _, _, _, _, _, _, _, _, Ev.bind h (by simp only [if_pos hnil, Option.bind_some, if_neg c0, if_neg c1, if_neg c2, if_pos c3, if_pos m3.1, if_pos (show Int.tmod v 3 < (([(⟨#[]⟩ : ByteArray), (⟨#[120]⟩ : ByteArray), (⟨#[88]⟩ : ByteArray)] : List ByteArray).length : Int) by simp; omega)]; exact Ev.now _), by simp [hk], hs, ?_, hq⟩
    unfold rdOf
    have hm : ([(⟨#[]⟩ : ByteArray), (⟨#[120]⟩ : ByteArray), (⟨#[88]⟩ : ByteArray)] : List ByteArray).getD (Int.tmod v 3).toNat ByteArray.empty ∈ ([(⟨#[]⟩ : ByteArray), (⟨#[120]⟩ : ByteArray), (⟨#[88]⟩ : ByteArray)] : List ByteArray) := by
      rw [getD_get _ _ _ (by simp; omega)]; exact List.getElem_mem _
    generalize ([(⟨#[]⟩ : ByteArray), (⟨#[120]⟩ : ByteArray), (⟨#[88]⟩ : ByteArray)] : List ByteArray).getD (Int.tmod v 3).toNat ByteArray.empty = z at hm
    simp at hm
    rcases hm with rfl | rfl | rfl <;> decide
  by_cases c4 : n = 4
  · exact ⟨_, _, _, _, _, _, _, _, _, _, _, _, Ev.bind h (by simp only [if_pos hnil, Option.bind_some, if_neg c0, if_neg c1, if_neg c2, if_neg c3, if_pos c4, if_pos m3.1, if_pos (show Int.tmod v 3 < (([(-1), 5, 1000000] : List Int).length : Int) by simp; omega)]; exact Ev.now _), by simp [hk], hs, ht, hq⟩
  by_cases c5 : n = 5
  · exact ⟨_, _, _, _, _, _, _, _, _, _, _, _, Ev.bind h (by simp only [if_pos hnil, Option.bind_some, if_neg c0, if_neg c1, if_neg c2, if_neg c3, if_neg c4, if_pos c5]; exact Ev.now _), by simp [hk], hs, ht, hq⟩
  by_cases c6 : n = 6
  · exact ⟨_, _, _, _, _, _, _, _, _, _, _, _, Ev.bind h (by simp only [if_pos hnil, Option.bind_some, if_neg c0, if_neg c1, if_neg c2, if_neg c3, if_neg c4, if_neg c5, if_pos c6, if_pos (show (([] : List Int) ++ kn).length < 17592186044416 by simp [hk])]; exact Ev.now _), by simp [hk], hs, ht, hq⟩
  · exact ⟨_, _, _, _, _, _, _, _, _, _, _, _, Ev.bind h (by simp only [if_pos hnil, Option.bind_some, if_neg c0, if_neg c1, if_neg c2, if_neg c3, if_neg c4, if_neg c5, if_neg c6]; exact Ev.now _), by simp [hk], hs, ht, hq⟩
theorem drawAct_ex (l : List Int) (hl : l.length ≤ 1048576) :
    ∃ a b c kn d s t e f g, Ev (fun k => spec_DrawActText.f k l) (a, b, c, kn, d, s, t, e, f, g) ∧ kn.length ≤ 4 ∧ s.size ≤ 9 ∧ t.size ≤ 9 := by
  obtain ⟨y, h0⟩ := new_ex l hl
  obtain ⟨a, b, c, kn, d, s, t, e, f, g, q, z, h, hk, hs, ht, _⟩ := any5_ex l hl 0 y ⟨by omega, by omega⟩
  refine ⟨a, b, c, kn, d, s, t, e, f, g, ?_, hk, hs, ht⟩
  unfold spec_DrawActText.f
  exact Ev.bind h0 (Ev.bind h (Ev.now _))
def nameB (s : ByteArray) : Nat → Nat → Bool
  | 0, _ => inB (s.size : Int) 1 8
  | d + 1, i => if inB (bt s (i : Int)) 97 122 = true then nameB s d (i + 1) else false
theorem toL (s : ByteArray) : s.toList = s.data.toList := ByteArray.toList_eq s
theorem ext_eq {a b : ByteArray} (h : a.toList = b.toList) : a = b := by
  rw [toL, toL] at h
  cases a; cases b; simp at h; rw [h]
theorem len_toL (s : ByteArray) : s.toList.length = s.size := by rw [toL, Array.length_toList]; rfl
theorem app_toL (a b : ByteArray) : (a ++ b).toList = a.toList ++ b.toList := by
  simp only [toL]; simp
theorem ext_toL (s : ByteArray) (a b : Nat) : (s.extract a b).toList = (s.toList.drop a).take (b - a) := by
  rw [toL, toL]; simp
def nm (s : ByteArray) : Bool := nameB s s.size 0
def valuedB (kind : Int) : Bool := if kind = 1 then true else if kind = 4 then true else (kind == 6)
def valB (kind val : Int) : Bool := if val = 0 then true else if valuedB kind = true then inB val 0 999999 else false
def wordsB (kind : Int) (obj key : ByteArray) (val : Int) : Bool :=
  if inB kind 1 7 = true then (if nm obj = true then (if inB kind 2 5 = true then (if nm key = true then valB kind val else false) else (if key.toList = [] then valB kind val else false)) else false) else false
theorem nm_empty {s : ByteArray} (h : s.toList = []) : nm s = false := by
  have hz : s.size = 0 := by have := len_toL s; rw [h] at this; simpa using this.symm
  unfold nm
  rw [hz, nameB, hz]; rfl
def refB (kind : Int) (knew : List Int) (r s : Int) : Bool := if kind = 7 then knowsB knew r s else if kind = 6 then (if (r == 0 && (s == 0)) = true then true else knowsB knew r s) else (r == 0 && (s == 0))
def actB (rep seq time : Int) (knew : List Int) (kind : Int) (obj key : ByteArray) (val r s : Int) : Bool :=
  if dotB rep seq = true then (if knowB knew = true then (if rd knew rep = seq - 1 then (if inB time 1 10000 = true then (if wordsB kind obj key val = true then refB kind knew r s else false) else false) else false) else false) else false
theorem dotB_true {r s : Int} (h : dotB r s = true) : (0 ≤ r ∧ r ≤ 2) ∧ 1 ≤ s ∧ s ≤ 1000 := by
  unfold dotB at h
  by_cases c : inB r 0 2 = true
  · rw [if_pos c] at h; exact ⟨inB_true.1 c, inB_true.1 h⟩
  · simp [c] at h
theorem know_len {l : List Int} (h : knowB l = true) : (l.length : Int) = 3 := by
  unfold knowB at h
  simp only [Bool.and_eq_true, beq_iff_eq] at h
  exact h.2
def varL : Nat → Int → List Int
  | 0, x => [x % 256]
  | d + 1, x => if x > 127 then (x % 128 + 128) :: varL d (x / 128) else [x % 256]
def big (d : Nat) : Int := 128 ^ d
theorem big_succ (d : Nat) : big (d + 1) = 128 * big d := by unfold big; rw [Int.pow_succ]; omega
theorem big_pos (d : Nat) : 0 < big d := by unfold big; exact Int.pow_pos (by omega)
theorem big_zero : big 0 = 1 := rfl
theorem varL_len : ∀ d x, (varL d x).length ≤ d + 1
  | 0, x => by simp [varL]
  | d + 1, x => by
    have := varL_len d (x / 128)
    unfold varL
    split <;> simp <;> omega
def varT (x : Int) : ByteArray := strOfNums (varL 9 x)
def shortT (s : ByteArray) : ByteArray × Bool := if (s.size : Int) > 20000 then ((⟨#[]⟩ : ByteArray), false) else (varT (s.size : Int) ++ s, true)
theorem strOfNums_len (l : List Int) : (strOfNums l).size = l.length := by
  unfold strOfNums; simp [ByteArray.size]
theorem varT_size (x : Int) : (varT x).size ≤ 10 := by
  unfold varT; rw [strOfNums_len]; exact varL_len 9 x
theorem know3 {l : List Int} (h : knowB l = true) : ∃ x y z, l = [x, y, z] ∧ (0 ≤ x ∧ x ≤ 1000) ∧ (0 ≤ y ∧ y ≤ 1000) ∧ (0 ≤ z ∧ z ≤ 1000) := by
  unfold knowB at h
  simp only [Bool.and_eq_true, beq_iff_eq] at h
  obtain ⟨h1, h2⟩ := h
  match l, h2 with
  | [x, y, z], _ =>
    simp [inB_true] at h1
    exact ⟨x, y, z, rfl, h1⟩
  | [], h => simp at h
  | [_], h => simp at h
  | [_, _], h => simp at h
  | _ :: _ :: _ :: _ :: _, h => simp at h; omega
theorem w1 : wrap64 (0 + 1) = 1 := by rw [wi (by omega)]; rfl
theorem w2 : wrap64 (1 + 1) = 2 := by rw [wi (by omega)]; rfl
def varTs : List Int → ByteArray → ByteArray
  | [], out => out
  | x :: l, out => varTs l (out ++ varT x)
theorem varTs_len : ∀ (l : List Int) (out : ByteArray), (varTs l out).size ≤ out.size + 10 * l.length
  | [], out => by simp [varTs]
  | x :: l, out => by
    have h1 := varTs_len l (out ++ varT x)
    have h2 := varT_size x
    rw [ByteArray.size_append] at h1
    rw [List.length_cons]
    unfold varTs
    omega
def shT (s : ByteArray) : ByteArray := varT (s.size : Int) ++ s
def actT (rep seq time : Int) (knew : List Int) (kind : Int) (obj key : ByteArray) (val r s : Int) : ByteArray :=
  (((((((varT rep ++ varT seq) ++ varT time) ++ varTs knew (⟨#[]⟩ : ByteArray)) ++ varT kind) ++ shT obj) ++ shT key) ++ varT val) ++ (varT r ++ varT s)
def small (x : Int) : Prop := 0 ≤ x ∧ x ≤ 1000000000
theorem nm_size {s : ByteArray} (h : nm s = true) : s.size ≤ 8 := by
  have key : ∀ (d i : Nat), nameB s d i = true → s.size ≤ 8 := by
    intro d
    induction d with
    | zero => intro i h; have := inB_true.1 h; omega
    | succ d ih =>
      intro i h
      unfold nameB at h
      split at h
      · exact ih _ h
      · cases h
  exact key _ _ h
theorem knows_small {l : List Int} {r s : Int} (h : knowsB l r s = true) : small r ∧ small s := by
  unfold knowsB at h
  split at h
  · split at h
    · rename_i hd
      have := dotB_true hd
      exact ⟨⟨by omega, by omega⟩, by omega, by omega⟩
    · cases h
  · cases h
structure ActOk (rep seq time : Int) (knew : List Int) (kind : Int) (obj key : ByteArray) (val r s : Int) : Prop where
  rep : small rep
  seq : small seq
  time : small time
  len : knew.length = 3
  knew : ∀ x ∈ knew, small x
  kind : small kind
  obj : obj.size ≤ 8
  key : key.size ≤ 8
  val : small val
  r : small r
  s : small s
theorem act_ok {rep seq time : Int} {knew : List Int} {kind : Int} {obj key : ByteArray} {val r s : Int} (h : actB rep seq time knew kind obj key val r s = true) : ActOk rep seq time knew kind obj key val r s := by
  unfold actB at h
  by_cases h1 : dotB rep seq = true
  · by_cases h2 : knowB knew = true
    · by_cases h3 : rd knew rep = seq - 1
      · by_cases h4 : inB time 1 10000 = true
        · by_cases h5 : wordsB kind obj key val = true
          · rw [if_pos h1, if_pos h2, if_pos h3, if_pos h4, if_pos h5] at h
            have d1 := dotB_true h1
            have d4 := inB_true.1 h4
            have d2 := know_len h2
            obtain ⟨x, y, z, rfl, hx, hy, hz⟩ := know3 h2
            have hk : small kind ∧ obj.size ≤ 8 ∧ key.size ≤ 8 ∧ small val := by
              unfold wordsB at h5
              by_cases g1 : inB kind 1 7 = true
              · by_cases g2 : nm obj = true
                · rw [if_pos g1, if_pos g2] at h5
                  have gk := inB_true.1 g1
                  have hv : ∀ {kk}, valB kk val = true → small val := by
                    intro kk hh
                    unfold valB at hh
                    split at hh
                    · unfold small; omega
                    · split at hh
                      · have := inB_true.1 hh; unfold small; omega
                      · cases hh
                  refine ⟨⟨by omega, by omega⟩, nm_size g2, ?_⟩
                  by_cases g3 : inB kind 2 5 = true
                  · rw [if_pos g3] at h5
                    by_cases g4 : nm key = true
                    · rw [if_pos g4] at h5; exact ⟨nm_size g4, hv h5⟩
                    · rw [if_neg g4] at h5; cases h5
                  · rw [if_neg g3] at h5
                    by_cases g4 : key.toList = []
                    · rw [if_pos g4] at h5
                      have := len_toL key
                      rw [g4] at this
                      exact ⟨by simp at this; omega, hv h5⟩
                    · rw [if_neg g4] at h5; cases h5
                · rw [if_pos g1, if_neg g2] at h5; cases h5
              · rw [if_neg g1] at h5; cases h5
            have hr : small r ∧ small s := by
              have h0 : (r == 0 && (s == 0)) = true → small r ∧ small s := by
                intro hh
                simp only [Bool.and_eq_true, beq_iff_eq] at hh
                unfold small; omega
              unfold refB at h
              by_cases g1 : kind = 7
              · rw [if_pos g1] at h; exact knows_small h
              · rw [if_neg g1] at h
                by_cases g2 : kind = 6
                · rw [if_pos g2] at h
                  by_cases g3 : (r == 0 && (s == 0)) = true
                  · exact h0 g3
                  · rw [if_neg g3] at h; exact knows_small h
                · rw [if_neg g2] at h; exact h0 h
            exact ⟨⟨by omega, by omega⟩, ⟨by omega, by omega⟩, ⟨by omega, by omega⟩, rfl, by simp [small]; omega, hk.1, hk.2.1, hk.2.2.1, hk.2.2.2, hr.1, hr.2⟩
          · rw [if_pos h1, if_pos h2, if_pos h3, if_pos h4, if_neg h5] at h; cases h
        · rw [if_pos h1, if_pos h2, if_pos h3, if_neg h4] at h; cases h
      · rw [if_pos h1, if_pos h2, if_neg h3] at h; cases h
    · rw [if_pos h1, if_neg h2] at h; cases h
  · rw [if_neg h1] at h; cases h
theorem spec_NameOk_l0 (s : ByteArray) (hs : s.size ≤ 140737488351232) : ∀ d i, i + d = s.size → Ev (fun k => spec_NameOk.l0 k s (i : Int)) (nameB s d i)
  | 0, i, hi => by
    refine Ev.step (fun k => rfl) ?_
    simp only [spec_NameOk.l0, if_neg (show ¬ (i : Int) < (s.size : Int) by omega), spec_in, Option.bind_some]
    exact Ev.now _
  | d + 1, i, hi => by
    refine Ev.step (fun k => rfl) ?_
    have ih := spec_NameOk_l0 s hs d (i + 1) (by omega)
    have hb := bt_range s (i : Int)
    simp only [spec_NameOk.l0, if_pos (show (i : Int) < (s.size : Int) by omega), if_pos (show (0 : Int) ≤ (i : Int) by omega), wr i (by omega), nameB]
    by_cases h1 : bt s (i : Int) < 97
    · simp only [if_pos h1, inB_false.2 (show ¬ (97 ≤ bt s (i : Int) ∧ bt s (i : Int) ≤ 122) by omega)]
      exact Ev.now _
    · by_cases h2 : bt s (i : Int) > 122
      · simp only [if_neg h1, if_pos h2, inB_false.2 (show ¬ (97 ≤ bt s (i : Int) ∧ bt s (i : Int) ≤ 122) by omega)]
        exact Ev.now _
      · simp only [if_neg h1, if_neg h2, inB_true.2 (show 97 ≤ bt s (i : Int) ∧ bt s (i : Int) ≤ 122 by omega), if_true]
        exact ih
theorem spec_NameOk_ev (s : ByteArray) (hs : s.size ≤ 140737488351232) : Ev (fun k => spec_NameOk.f k s) (nameB s s.size 0) := spec_NameOk_l0 s hs s.size 0 (by omega)
theorem spec_l05Keyed_eq (kind : Int) : spec_l05Keyed.f kind = some (inB kind 2 5) := by simp [spec_l05Keyed.f, spec_in]
theorem spec_l05Valued_eq (kind : Int) : spec_l05Valued.f kind = some (valuedB kind) := by
  unfold spec_l05Valued.f valuedB
  split
  · rfl
  · split <;> rfl
theorem spec_l05Plain_j0 (kind val : Int) : Ev (fun k => spec_l05Plain.j0 k kind val false) (valB kind val) := by
  refine Ev.step (fun k => rfl) ?_
  simp only [spec_l05Plain.j0, Bool.false_eq_true, if_false, spec_l05Valued_eq, Option.bind_some, spec_in, valB]
  by_cases c : val = 0
  · simp only [if_pos c]; exact Ev.now _
  · simp only [if_neg c]
    by_cases c2 : valuedB kind = true
    · simp only [if_pos c2]; exact Ev.now _
    · simp only [if_neg c2]; exact Ev.now _
theorem spec_l05Plain_no (kind val : Int) : Ev (fun k => spec_l05Plain.j0 k kind val true) false := by
  refine Ev.step (fun k => rfl) ?_
  simp only [spec_l05Plain.j0, if_true]; exact Ev.now _
theorem spec_l05Plain_ev (kind : Int) (obj key : ByteArray) (val : Int) (ho : obj.size ≤ 140737488351232) (hk : key.size ≤ 140737488351232) : Ev (fun k => spec_l05Plain.f k kind obj key val) (wordsB kind obj key val) := by
  unfold spec_l05Plain.f wordsB
  simp only [spec_in, spec_l05Keyed_eq, Option.bind_some]
  by_cases c1 : inB kind 1 7 = true
  · simp only [if_pos c1]
    refine Ev.bind (spec_NameOk_ev obj ho) ?_
    show Ev _ (if nm obj = true then _ else _)
    by_cases c2 : nm obj = true
    · have c2' : nameB obj obj.size 0 = true := c2
      simp only [if_pos c2, if_pos c2']
      by_cases c3 : inB kind 2 5 = true
      · simp only [if_pos c3]
        refine Ev.bind (spec_NameOk_ev key hk) ?_
        show Ev _ (if nm key = true then _ else _)
        by_cases c4 : nm key = true
        · have c4' : nameB key key.size 0 = true := c4
          simp only [if_pos c4, if_pos c4']; exact spec_l05Plain_j0 kind val
        · have c4' : ¬ nameB key key.size 0 = true := c4
          simp only [if_neg c4, if_neg c4']; exact spec_l05Plain_no kind val
      · simp only [if_neg c3]
        by_cases c4 : key.toList = []
        · simp only [if_pos c4, c4, bne_self_eq_false]; exact spec_l05Plain_j0 kind val
        · simp only [if_neg c4, bne_iff_ne.2 c4]; exact spec_l05Plain_no kind val
    · have c2' : ¬ nameB obj obj.size 0 = true := c2
      simp only [if_neg c2, if_neg c2']; exact spec_l05Plain_no kind val
  · simp only [if_neg c1]; exact spec_l05Plain_no kind val
theorem spec_ActOk_no (a b c : Int) (l : List Int) (d : Int) (s t : ByteArray) (e f g : Int) : Ev (fun k => spec_ActOk.j0 k true a b c l d s t e f g) false := by
  refine Ev.step (fun k => rfl) ?_
  simp only [spec_ActOk.j0, if_true]; exact Ev.now _
theorem spec_ActOk_j0 (a b c : Int) (l : List Int) (d : Int) (s t : ByteArray) (e f g : Int) (hl : l.length ≤ 140737488351232) : Ev (fun k => spec_ActOk.j0 k false a b c l d s t e f g) (refB d l f g) := by
  refine Ev.step (fun k => rfl) ?_
  simp only [spec_ActOk.j0, Bool.false_eq_true, if_false, refB]
  by_cases c1 : d = 7
  · simp only [if_pos c1]; exact Ev.bind (spec_Knows_ev l f g hl) (Ev.now _)
  · simp only [if_neg c1]
    by_cases c2 : d = 6
    · simp only [if_pos c2]
      by_cases c3 : (f == 0 && (g == 0)) = true
      · simp only [if_pos c3]; exact Ev.now _
      · simp only [if_neg c3]; exact Ev.bind (spec_Knows_ev l f g hl) (Ev.now _)
    · simp only [if_neg c2]; exact Ev.now _
theorem spec_ActOk_ev (a b c : Int) (l : List Int) (d : Int) (s t : ByteArray) (e f g : Int) (hl : l.length ≤ 140737488351232) (hs : s.size ≤ 140737488351232) (ht : t.size ≤ 140737488351232) : Ev (fun k => spec_ActOk.f k a b c l d s t e f g) (actB a b c l d s t e f g) := by
  unfold spec_ActOk.f actB
  simp only [spec_DotOk_eq, spec_in, Option.bind_some]
  by_cases c1 : dotB a b = true
  · have h1 := dotB_true c1
    simp only [if_pos c1]
    refine Ev.bind (spec_KnowOk_ev l hl) ?_
    by_cases c2 : knowB l = true
    · have h2 := know_len c2
      simp only [if_pos c2, if_pos h1.1.1, if_pos (show a < (l.length : Int) by omega), wi (n := b - 1) (by omega)]
      by_cases c3 : rd l a = b - 1
      · simp only [if_pos c3]
        by_cases c4 : inB c 1 10000 = true
        · simp only [if_pos c4]
          refine Ev.bind (spec_l05Plain_ev d s t e hs ht) ?_
          by_cases c5 : wordsB d s t e = true
          · simp only [if_pos c5, c5, Bool.not_true]; exact spec_ActOk_j0 a b c l d s t e f g hl
          · simp only [if_neg c5, Bool.eq_false_iff.2 c5, Bool.not_false]; exact spec_ActOk_no ..
        · simp only [if_neg c4]; exact spec_ActOk_no ..
      · simp only [if_neg c3]; exact spec_ActOk_no ..
    · simp only [if_neg c2]; exact spec_ActOk_no ..
  · simp only [if_neg c1]; exact spec_ActOk_no ..
theorem spec_l01Var_l0 : ∀ (d : Nat) (x : Int) (out : List Int), 0 ≤ x → x ≤ 9223372036854775807 → x < 128 * big d → out.length + d ≤ 100 → Ev (fun k => spec_l01Var.l0 k x out) (strOfNums (out ++ varL d x))
  | 0, x, out, h0, hm, hx, hl => by
    refine Ev.step (fun k => rfl) ?_
    rw [big_zero] at hx
    simp only [spec_l01Var.l0, if_neg (show ¬ x > 127 by omega), if_pos (show out.length < 140737488355328 by omega), varL]
    exact Ev.now _
  | d + 1, x, out, h0, hm, hx, hl => by
    refine Ev.step (fun k => rfl) ?_
    rw [big_succ] at hx
    by_cases c : x > 127
    · have e1 : wrap64 (Int.tdiv x 128) = x / 128 := by rw [Int.tdiv_eq_ediv_of_nonneg h0]; exact wi (by omega)
      have e2 : (wrap64 ((Int.tmod x 128) + 128)) % 256 = x % 128 + 128 := by rw [Int.tmod_eq_emod_of_nonneg h0, wi (by omega)]; omega
      have ih := spec_l01Var_l0 d (x / 128) (out ++ [x % 128 + 128]) (by omega) (by omega) (by omega) (by simp; omega)
      simp only [spec_l01Var.l0, if_pos c, if_pos (show out.length < 140737488355328 by omega), e1, e2, varL]
      simpa using ih
    · simp only [spec_l01Var.l0, if_neg c, if_pos (show out.length < 140737488355328 by omega), varL]
      exact Ev.now _
theorem spec_l01Var_ev (x : Int) (h0 : 0 ≤ x) (hm : x ≤ 9223372036854775807) : Ev (fun k => spec_l01Var.f k x) (varT x) :=
  spec_l01Var_l0 9 x [] h0 hm (by unfold big; omega) (by simp)
theorem spec_var_ev {x : Int} (h : small x) : Ev (fun k => spec_l01Var.f k x) (varT x) := spec_l01Var_ev x h.1 (by have := h.2; omega)
theorem spec_l05Dot_ev {r s : Int} (hr : small r) (hs : small s) : Ev (fun k => spec_l05Dot.f k r s) (varT r ++ varT s) := by
  unfold spec_l05Dot.f
  have h1 := varT_size r
  have h2 := varT_size s
  refine Ev.bind (spec_var_ev hr) (Ev.bind (spec_var_ev hs) ?_)
  simp only [if_pos (show (varT r).size + (varT s).size ≤ 9223372036854775807 by omega)]
  exact Ev.now _
theorem spec_l05Short_ev (s : ByteArray) (h : s.size ≤ 1000) : Ev (fun k => spec_l05Short.f k s) (shT s) := by
  unfold spec_l05Short.f
  have h1 := varT_size (s.size : Int)
  refine Ev.bind (spec_var_ev ⟨by omega, by omega⟩) ?_
  simp only [if_pos (show (varT (s.size : Int)).size + s.size ≤ 9223372036854775807 by omega)]
  exact Ev.now _
theorem spec_l05Know_l0 (l : List Int) (hl : l.length ≤ 1000) (hx : ∀ x ∈ l, small x) : ∀ d i (out : ByteArray), i + d = l.length → out.size ≤ 10 * i → Ev (fun k => spec_l05Know.l0 k l out (i : Int)) (varTs (l.drop i) out)
  | 0, i, out, hi, ho => by
    refine Ev.step (fun k => rfl) ?_
    simp only [spec_l05Know.l0, if_neg (show ¬ (i : Int) < (l.length : Int) by omega), List.drop_eq_nil_of_le (show l.length ≤ i by omega), varTs]
    exact Ev.now _
  | d + 1, i, out, hi, ho => by
    refine Ev.step (fun k => rfl) ?_
    have hz := varT_size (rd l (i : Int))
    simp only [spec_l05Know.l0, if_pos (show (i : Int) < (l.length : Int) by omega), if_pos (show (0 : Int) ≤ (i : Int) by omega), wr i (by omega), drop_rd l i (by omega), varTs]
    refine Ev.bind (spec_var_ev (hx _ (by rw [rd_get l i (by omega)]; exact List.getElem_mem _))) ?_
    simp only [if_pos (show out.size + (varT (rd l (i : Int))).size ≤ 9223372036854775807 by omega)]
    exact spec_l05Know_l0 l hl hx d (i + 1) _ (by omega) (by rw [ByteArray.size_append]; omega)
theorem spec_l05Know_ev (l : List Int) (hl : l.length ≤ 1000) (hx : ∀ x ∈ l, small x) : Ev (fun k => spec_l05Know.f k l) (varTs l (⟨#[]⟩ : ByteArray)) :=
  spec_l05Know_l0 l hl hx l.length 0 _ (by omega) (by decide)
theorem spec_ActText_ev (a b c : Int) (l : List Int) (d : Int) (s t : ByteArray) (e f g : Int) (hl : l.length ≤ 140737488351232) (hs : s.size ≤ 140737488351232) (ht : t.size ≤ 140737488351232) :
    Ev (fun k => spec_ActText.f k a b c l d s t e f g) (if actB a b c l d s t e f g = true then (actT a b c l d s t e f g, true) else ((⟨#[]⟩ : ByteArray), false)) := by
  unfold spec_ActText.f
  refine Ev.bind (spec_ActOk_ev a b c l d s t e f g hl hs ht) ?_
  by_cases h : actB a b c l d s t e f g = true
  · simp only [if_pos h]
    have o := act_ok h
    have z1 := varT_size a
    have z2 := varT_size b
    have z3 := varT_size c
    have z4 := varTs_len l (⟨#[]⟩ : ByteArray)
    rw [o.len, show (⟨#[]⟩ : ByteArray).size = 0 from rfl] at z4
    have z5 := varT_size d
    have z6 := varT_size (s.size : Int)
    have z7 := varT_size (t.size : Int)
    have z8 := varT_size e
    have z9 := varT_size f
    have z10 := varT_size g
    have z11 := o.obj
    have z12 := o.key
    refine Ev.bind (spec_l05Dot_ev o.rep o.seq) (Ev.bind (spec_var_ev o.time) ?_)
    simp only [if_pos (show (varT a ++ varT b).size + (varT c).size ≤ 9223372036854775807 by simp only [ByteArray.size_append]; omega)]
    refine Ev.bind (spec_l05Know_ev l (by rw [o.len]; omega) o.knew) ?_
    simp only [if_pos (show ((varT a ++ varT b) ++ varT c).size + (varTs l (⟨#[]⟩ : ByteArray)).size ≤ 9223372036854775807 by simp only [ByteArray.size_append]; omega)]
    refine Ev.bind (spec_var_ev o.kind) ?_
    simp only [if_pos (show (((varT a ++ varT b) ++ varT c) ++ varTs l (⟨#[]⟩ : ByteArray)).size + (varT d).size ≤ 9223372036854775807 by simp only [ByteArray.size_append]; omega)]
    refine Ev.bind (spec_l05Short_ev s (by omega)) ?_
    simp only [if_pos (show ((((varT a ++ varT b) ++ varT c) ++ varTs l (⟨#[]⟩ : ByteArray)) ++ varT d).size + (shT s).size ≤ 9223372036854775807 by unfold shT; simp only [ByteArray.size_append]; omega)]
    refine Ev.bind (spec_l05Short_ev t (by omega)) ?_
    simp only [if_pos (show (((((varT a ++ varT b) ++ varT c) ++ varTs l (⟨#[]⟩ : ByteArray)) ++ varT d) ++ shT s).size + (shT t).size ≤ 9223372036854775807 by unfold shT; simp only [ByteArray.size_append]; omega)]
    refine Ev.bind (spec_var_ev o.val) ?_
    simp only [if_pos (show ((((((varT a ++ varT b) ++ varT c) ++ varTs l (⟨#[]⟩ : ByteArray)) ++ varT d) ++ shT s) ++ shT t).size + (varT e).size ≤ 9223372036854775807 by unfold shT; simp only [ByteArray.size_append]; omega)]
    refine Ev.bind (spec_l05Dot_ev o.r o.s) ?_
    simp only [if_pos (show (((((((varT a ++ varT b) ++ varT c) ++ varTs l (⟨#[]⟩ : ByteArray)) ++ varT d) ++ shT s) ++ shT t) ++ varT e).size + (varT f ++ varT g).size ≤ 9223372036854775807 by unfold shT; simp only [ByteArray.size_append]; omega)]
    exact Ev.now _
  · simp only [if_neg h]; exact Ev.now _
theorem once_ex (l : List Int) (hl : l.length ≤ 1048576) (p x n : Int) (hp : At l p) : ∃ b q y, spec_l01Once.f l p x n = some (b, q, y) ∧ At l q := by
  unfold spec_l01Once.f
  obtain ⟨a, q, y, e, _, _, _, p1⟩ := below_ex l hl p x n hp
  simp only [e, Option.bind_some]
  exact ⟨_, _, _, rfl, p1⟩
theorem drawSame_ex (l : List Int) (hl : l.length ≤ 1048576) :
    ∃ a b c kn d s t e f g a' b' c' kn' d' s' t' e' f' g', Ev (fun k => spec_DrawSameAct.f k l) (a, b, c, kn, d, s, t, e, f, g, a', b', c', kn', d', s', t', e', f', g') ∧ kn.length ≤ 4 := by
  obtain ⟨y, h0⟩ := new_ex l hl
  obtain ⟨a, b, c, kn, d, s, t, e, f, g, q, z, h, hk, hs, ht, p1⟩ := any5_ex l hl 0 y ⟨by omega, by omega⟩
  obtain ⟨o, q2, z2, e2, p2⟩ := once_ex l hl q z 2 p1
  unfold spec_DrawSameAct.f spec_l05Copy.f
  by_cases c1 : o = true
  · refine ⟨a, b, c, kn, d, s, t, e, f, g, a, b, c, [] ++ kn, d, s, t, e, f, g, Ev.bind h0 (Ev.bind h ?_), hk⟩
    simp only [e2, Option.bind_some, if_pos c1, if_pos (show ([] : List Int).length + kn.length < 17592186044416 by simp; omega)]
    exact Ev.now _
  · obtain ⟨a', b', c', kn', d', s', t', e', f', g', q3, z3, h3, _⟩ := any5_ex l hl q2 z2 p2
    refine ⟨a, b, c, kn, d, s, t, e, f, g, a', b', c', kn', d', s', t', e', f', g', Ev.bind h0 (Ev.bind h ?_), hk⟩
    simp only [e2, Option.bind_some, if_neg c1]
    exact Ev.bind h3 (Ev.now _)
theorem drawLater_ex (l : List Int) (hl : l.length ≤ 1048576) :
    ∃ a b c kn d s t e f g a' b' c' kn' d' s' t' e' f' g', Ev (fun k => spec_DrawLater.f k l) (a, b, c, kn, d, s, t, e, f, g, a', b', c', kn', d', s', t', e', f', g') := by
  obtain ⟨y, h0⟩ := new_ex l hl
  obtain ⟨a, b, c, kn, d, s, t, e, f, g, q, z, h, hk, hs, ht, p1⟩ := any5_ex l hl 0 y ⟨by omega, by omega⟩
  obtain ⟨a', b', c', kn', d', s', t', e', f', g', q3, z3, h3, _⟩ := any5_ex l hl q z p1
  unfold spec_DrawLater.f
  exact ⟨_, _, _, _, _, _, _, _, _, _, _, _, _, _, _, _, _, _, _, _, Ev.bind h0 (Ev.bind h (Ev.bind h3 (Ev.now _)))⟩
theorem drawName_ex (l : List Int) (hl : l.length ≤ 1048576) : ∃ s, Ev (fun k => spec_DrawNameOk.f k l) s ∧ s.size ≤ 9 := by
  obtain ⟨y, h0⟩ := new_ex l hl
  obtain ⟨s, q, z, e, hs, _⟩ := pickT_ex l hl 0 y ⟨by omega, by omega⟩ [(⟨#[97]⟩ : ByteArray), (⟨#[]⟩ : ByteArray), (⟨#[97, 98, 99, 100, 101, 102, 103, 104]⟩ : ByteArray), (⟨#[97, 98, 99, 100, 101, 102, 103, 104, 105]⟩ : ByteArray), (⟨#[65]⟩ : ByteArray), (⟨#[97, 49]⟩ : ByteArray)] (by simp) (by intro s hs; simp at hs; rcases hs with rfl | rfl | rfl | rfl | rfl | rfl <;> decide)
  refine ⟨s, ?_, hs⟩
  unfold spec_DrawNameOk.f
  refine Ev.bind h0 ?_
  simp only [e, Option.bind_some]
  exact Ev.now _
theorem spoiltj_ex (l : List Int) (hl : l.length ≤ 1048576) (p x : Int) (hp : At l p) (t : ByteArray) (ht : t.size ≤ 100000) (b : Bool) : ∃ s q y, Ev (fun k => spec_l02Spoilt.j0 k t b l p x) (s, q, y) ∧ s.size ≤ 200000 := by
  by_cases c : b = true
  · by_cases c1 : (t.size : Int) > 0
    · obtain ⟨n, q1, y1, e1, g1, k1, _, p1⟩ := below_ex l hl p x (t.size : Int) hp
      have hk := k1 (by omega)
      obtain ⟨s, q2, y2, e2, hs, p2⟩ := text_ex l hl q1 y1 1 p1 (by omega)
      have z1 : (t.extract 0 n.toNat).size ≤ t.size := by rw [ByteArray.size_extract]; omega
      have z2 : (t.extract (n + 1).toNat t.size).size + 1 ≤ t.size := by rw [ByteArray.size_extract]; omega
      have z3 : ((t.extract 0 n.toNat) ++ s).size = (t.extract 0 n.toNat).size + s.size := ByteArray.size_append
      have z4 : (((t.extract 0 n.toNat) ++ s) ++ t.extract (n + 1).toNat t.size).size = (t.extract 0 n.toNat).size + s.size + (t.extract (n + 1).toNat t.size).size := by rw [ByteArray.size_append, z3]
      refine ⟨((t.extract 0 n.toNat) ++ s) ++ t.extract (n + 1).toNat t.size, q2, y2, Ev.step (fun k => rfl) ?_, ?_⟩
      · simp only [spec_l02Spoilt.j0, if_pos c, if_pos c1, e1, Option.bind_some, if_pos g1, if_pos (show n ≤ (t.size : Int) by omega)]
        refine Ev.bind e2 ?_
        simp only [wi (n := n + 1) (by omega), z3, if_pos (show (t.extract 0 n.toNat).size + s.size ≤ 9223372036854775807 by omega), if_pos (show 0 ≤ n + 1 by omega), if_pos (show n + 1 ≤ (t.size : Int) by omega), if_pos (show (t.extract 0 n.toNat).size + s.size + (t.extract (n + 1).toNat t.size).size ≤ 9223372036854775807 by omega)]
        exact Ev.now _
      · rw [z4]; omega
    · refine ⟨t, p, x, Ev.step (fun k => rfl) ?_, by omega⟩
      simp only [spec_l02Spoilt.j0, if_pos c, if_neg c1]
      exact Ev.now _
  · refine ⟨t, p, x, Ev.step (fun k => rfl) ?_, by omega⟩
    simp only [spec_l02Spoilt.j0, if_neg c]
    exact Ev.now _
theorem spoilt_ex (l : List Int) (hl : l.length ≤ 1048576) (p x : Int) (hp : At l p) (t : ByteArray) (ht : t.size ≤ 100000) : ∃ s q y, Ev (fun k => spec_l02Spoilt.f k l p x t) (s, q, y) ∧ s.size ≤ 200000 := by
  obtain ⟨n, q1, y1, e1, g1, k1, _, p1⟩ := below_ex l hl p x 12 hp
  unfold spec_l02Spoilt.f
  simp only [e1, Option.bind_some]
  by_cases c0 : n = 0
  · obtain ⟨s, q2, y2, e2, hs, p2⟩ := text_ex l hl q1 y1 1 p1 (by omega)
    refine ⟨t ++ s, q2, y2, ?_, ?_⟩
    · simp only [if_pos c0]
      refine Ev.bind e2 ?_
      simp only [if_pos (show t.size + s.size ≤ 9223372036854775807 by omega)]
      exact Ev.now _
    · rw [ByteArray.size_append]; omega
  by_cases c1 : n = 1
  · obtain ⟨m, q2, y2, e2, g2, k2, _, p2⟩ := below_ex l hl q1 y1 ((t.size : Int) + 1) p1
    have hk := k2 (by omega)
    refine ⟨t.extract 0 m.toNat, q2, y2, ?_, ?_⟩
    · simp only [if_neg c0, if_pos c1, wi (n := (t.size : Int) + 1) (by omega), e2, Option.bind_some, if_pos g2, if_pos (show m ≤ (t.size : Int) by omega)]
      exact Ev.now _
    · rw [ByteArray.size_extract]; omega
  · obtain ⟨s, q, y, h, hs⟩ := spoiltj_ex l hl q1 y1 p1 t ht (n == 2)
    obtain ⟨s', q', y', h', hs'⟩ := spoiltj_ex l hl q1 y1 p1 t ht (n == 3)
    by_cases c2 : n = 2
    · refine ⟨s, q, y, ?_, hs⟩
      simp only [if_neg c0, if_neg c1, if_pos c2]
      exact h
    · refine ⟨s', q', y', ?_, hs'⟩
      simp only [if_neg c0, if_neg c1, if_neg c2]
      exact h'
theorem actT_size (a b c : Int) (l : List Int) (d : Int) (s t : ByteArray) (e f g : Int) (hl : l.length ≤ 100) (hs : s.size ≤ 100) (ht : t.size ≤ 100) : (actT a b c l d s t e f g).size ≤ 2000 := by
  have z1 := varT_size a
  have z2 := varT_size b
  have z3 := varT_size c
  have z4 := varTs_len l (⟨#[]⟩ : ByteArray)
  have z5 := varT_size d
  have z6 := varT_size (s.size : Int)
  have z7 := varT_size (t.size : Int)
  have z8 := varT_size e
  have z9 := varT_size f
  have z10 := varT_size g
  have z0 : (⟨#[]⟩ : ByteArray).size = 0 := rfl
  unfold actT shT
  simp only [ByteArray.size_append]
  omega
theorem drawRead_ex (l : List Int) (hl : l.length ≤ 1048576) : ∃ t p, Ev (fun k => spec_DrawReadAct.f k l) (t, p) ∧ t.size ≤ 300000 := by
  obtain ⟨y, h0⟩ := new_ex l hl
  obtain ⟨n, q1, y1, e1, g1, k1, _, p1⟩ := below_ex l hl 0 y 6 ⟨by omega, by omega⟩
  obtain ⟨a, b, c, kn, d, s, t, e, f, g, q, z, h, hk, hs, ht, p2⟩ := any5_ex l hl q1 y1 p1
  have ha := spec_ActText_ev a b c kn d s t e f g (by omega) (by omega) (by omega)
  have hz : (if actB a b c kn d s t e f g = true then (actT a b c kn d s t e f g, true) else ((⟨#[]⟩ : ByteArray), false)).1.size ≤ 2000 := by
    split
    · exact actT_size a b c kn d s t e f g (by omega) (by omega) (by omega)
    · decide
  generalize (if actB a b c kn d s t e f g = true then (actT a b c kn d s t e f g, true) else ((⟨#[]⟩ : ByteArray), false)) = R at ha hz
  obtain ⟨T, ok⟩ := R
  simp only at hz
  unfold spec_DrawReadAct.f
  by_cases c0 : n = 0
  · obtain ⟨s2, q2, y2, h2, hs2⟩ := spoilt_ex l hl q z p2 T (by omega)
    refine ⟨s2, 0, Ev.bind h0 ?_, ?_⟩
    · simp only [e1, Option.bind_some]
      refine Ev.bind h (Ev.bind ha ?_)
      simp only [if_pos c0]
      exact Ev.bind h2 (Ev.now _)
    · omega
  by_cases c1 : n = 1
  · have z3 : ((⟨#[120, 121]⟩ : ByteArray) ++ T).size = 2 + T.size := ByteArray.size_append
    refine ⟨((⟨#[120, 121]⟩ : ByteArray) ++ T) ++ (⟨#[122]⟩ : ByteArray), 2, Ev.bind h0 ?_, ?_⟩
    · simp only [e1, Option.bind_some]
      refine Ev.bind h (Ev.bind ha ?_)
      simp only [if_neg c0, if_pos c1, z3, if_pos (show 2 + T.size ≤ 9223372036854775807 by omega), if_pos (show 2 + T.size + 1 ≤ 9223372036854775807 by omega)]
      exact Ev.now _
    · have z5 : ((⟨#[122]⟩ : ByteArray)).size = 1 := rfl
      rw [ByteArray.size_append, z3, z5]; omega
  by_cases c2 : n = 2
  · obtain ⟨m, q2, y2, e2, g2, k2, _, _⟩ := below_ex l hl q z 5 p2
    refine ⟨T, wrap64 (m - 1), Ev.bind h0 ?_, ?_⟩
    · simp only [e1, Option.bind_some]
      refine Ev.bind h (Ev.bind ha ?_)
      simp only [if_neg c0, if_neg c1, if_pos c2, e2, Option.bind_some]
      exact Ev.now _
    · omega
  · refine ⟨T, 0, Ev.bind h0 ?_, ?_⟩
    · simp only [e1, Option.bind_some]
      refine Ev.bind h (Ev.bind ha ?_)
      simp only [if_neg c0, if_neg c1, if_neg c2]
      exact Ev.now _
    · omega
theorem bb_toL (s : ByteArray) (j : Nat) : bt s (j : Int) = ((s.toList.getD j 0).toNat : Int) := by
  unfold bt
  rw [toL, List.getD_eq_getElem?_getD]
  by_cases h : j < s.size
  · have h' : j < s.data.toList.length := by rw [Array.length_toList]; exact h
    rw [dif_pos (show (j : Int).toNat < s.size by omega), List.getElem?_eq_getElem h']
    simp [ByteArray.getElem_eq_getElem_data]
  · have h' : s.data.toList.length ≤ j := by rw [Array.length_toList]; exact Nat.le_of_not_lt h
    rw [dif_neg (show ¬ (j : Int).toNat < s.size by omega), List.getElem?_eq_none h']
    rfl
theorem bb_left (a b : ByteArray) (j : Nat) (h : j < a.size) : bt (a ++ b) (j : Int) = bt a (j : Int) := by
  rw [bb_toL, bb_toL, app_toL, List.getD_eq_getElem?_getD, List.getD_eq_getElem?_getD, List.getElem?_append_left (by rw [len_toL]; exact h)]
theorem bb_right (a b : ByteArray) (j : Nat) : bt (a ++ b) ((a.size + j : Nat) : Int) = bt b (j : Int) := by
  rw [bb_toL, bb_toL, app_toL, List.getD_eq_getElem?_getD, List.getD_eq_getElem?_getD, List.getElem?_append_right (by rw [len_toL]; omega), len_toL, show a.size + j - a.size = j by omega]
theorem bb_nums (l : List Int) (j : Nat) (h : j < l.length) (hr : ∀ x ∈ l, 0 ≤ x ∧ x ≤ 255) : bt (strOfNums l) (j : Int) = l.getD j 0 := by
  have hx := hr l[j] (List.getElem_mem h)
  rw [bb_toL, toL, List.getD_eq_getElem?_getD, List.getD_eq_getElem?_getD, List.getElem?_eq_getElem h]
  simp [strOfNums, h]
  omega
theorem varL_rng : ∀ (d : Nat) (x : Int), 0 ≤ x → ∀ y ∈ varL d x, 0 ≤ y ∧ y ≤ 255
  | 0, x, h, y, hy => by
    simp [varL] at hy; omega
  | d + 1, x, h, y, hy => by
    unfold varL at hy
    split at hy
    · rcases List.mem_cons.1 hy with hy | hy
      · omega
      · exact varL_rng d (x / 128) (by omega) y hy
    · simp at hy; omega
def rvF (s : ByteArray) (at_ : Nat) : Nat → Nat → Int → Int × Int × Bool
  | 0, _, _ => (0, 0, false)
  | d + 1, i, n =>
    if at_ + i < s.size then
      if bt s ((at_ + i : Nat) : Int) > 127 then rvF s at_ d (i + 1) (n + bt s ((at_ + i : Nat) : Int) % 128 * big i)
      else if (i > 0 ∧ bt s ((at_ + i : Nat) : Int) = 0) ∨ n + bt s ((at_ + i : Nat) : Int) % 128 * big i > 1000000000 then (0, 0, false)
      else (n + bt s ((at_ + i : Nat) : Int) % 128 * big i, ((at_ + i + 1 : Nat) : Int), true)
    else (0, 0, false)
def rvT (s : ByteArray) (at_ : Int) : Int × Int × Bool := if inB at_ 0 (s.size : Int) = true then rvF s at_.toNat 5 0 0 else (0, 0, false)
theorem big_vals : big 0 = 1 ∧ big 1 = 128 ∧ big 2 = 16384 ∧ big 3 = 2097152 ∧ big 4 = 268435456 ∧ big 5 = 34359738368 := by unfold big; omega
theorem shl_big (x : Int) (hx : 0 ≤ x ∧ x ≤ 127) (i : Nat) (hi : i < 5) : shl .i64 x (wrap64 (7 * (i : Int))) = x * big i := by
  rw [wi (n := 7 * (i : Int)) (by omega)]
  unfold shl
  obtain ⟨e0, e1, e2, e3, e4, _⟩ := big_vals
  have h : i = 0 ∨ i = 1 ∨ i = 2 ∨ i = 3 ∨ i = 4 := by omega
  rcases h with rfl | rfl | rfl | rfl | rfl
  · rw [e0, show x * 2 ^ (min (7 * ((0 : Nat) : Int)).toNat IntKind.i64.bits) = x * 1 by rfl, IntKind.wrap_i64]; omega
  · rw [e1, show x * 2 ^ (min (7 * ((1 : Nat) : Int)).toNat IntKind.i64.bits) = x * 128 by rfl, IntKind.wrap_i64]; omega
  · rw [e2, show x * 2 ^ (min (7 * ((2 : Nat) : Int)).toNat IntKind.i64.bits) = x * 16384 by rfl, IntKind.wrap_i64]; omega
  · rw [e3, show x * 2 ^ (min (7 * ((3 : Nat) : Int)).toNat IntKind.i64.bits) = x * 2097152 by rfl, IntKind.wrap_i64]; omega
  · rw [e4, show x * 2 ^ (min (7 * ((4 : Nat) : Int)).toNat IntKind.i64.bits) = x * 268435456 by rfl, IntKind.wrap_i64]; omega
theorem big_step (n b : Int) (i : Nat) (hn : 0 ≤ n ∧ n < big i) (hb : 0 ≤ b ∧ b ≤ 127) : 0 ≤ n + b * big i ∧ n + b * big i < big (i + 1) := by
  have hp := big_pos i
  rw [big_succ]
  have h1 : b * big i ≤ 127 * big i := Int.mul_le_mul_of_nonneg_right hb.2 (by omega)
  have h2 : 0 ≤ b * big i := Int.mul_nonneg hb.1 (by omega)
  omega
theorem big_le (i : Nat) (hi : i ≤ 5) : big i ≤ 34359738368 := by
  obtain ⟨e0, e1, e2, e3, e4, e5⟩ := big_vals
  have h : i = 0 ∨ i = 1 ∨ i = 2 ∨ i = 3 ∨ i = 4 ∨ i = 5 := by omega
  rcases h with rfl | rfl | rfl | rfl | rfl | rfl <;> omega
structure Canon (s : ByteArray) (at_ i : Nat) (n : Int) (pre : List Int) : Prop where
  bytes : Lib.bytesOf pre = (s.toList.drop at_).take i
  len : pre.length = i
  goes : ∀ (v : Int) (d : Nat), 0 < v → varL (d + i) (n + big i * v) = pre ++ varL d v
theorem canon_zero (s : ByteArray) (at_ : Nat) : Canon s at_ 0 0 [] := ⟨by simp [Lib.bytesOf], rfl, fun v d _ => by rw [big_zero]; simp⟩
theorem take_bt (s : ByteArray) (at_ i : Nat) (h : at_ + i < s.size) : (s.toList.drop at_).take (i + 1) = (s.toList.drop at_).take i ++ [UInt8.ofNat (bt s ((at_ + i : Nat) : Int)).toNat] := by
  have hl : i < (s.toList.drop at_).length := by rw [List.length_drop, len_toL]; omega
  rw [List.take_succ_eq_append_getElem hl]
  congr 2
  rw [List.getElem_drop]
  unfold bt
  rw [Int.toNat_natCast, dif_pos h, Int.toNat_natCast, UInt8.ofNat_toNat]
  have := toL s
  simp only [this]
  rfl
theorem canon_step {s : ByteArray} {at_ i : Nat} {n : Int} {pre : List Int} (h : Canon s at_ i n pre) (hs : at_ + i < s.size) (hb : bt s ((at_ + i : Nat) : Int) > 127) :
    Canon s at_ (i + 1) (n + bt s ((at_ + i : Nat) : Int) % 128 * big i) (pre ++ [bt s ((at_ + i : Nat) : Int)]) := by
  have hr := bt_range s ((at_ + i : Nat) : Int)
  refine ⟨?_, by simp [h.len], fun v d hv => ?_⟩
  · rw [take_bt s at_ i hs, ← h.bytes]; simp [Lib.bytesOf]
  · generalize hB : bt s ((at_ + i : Nat) : Int) = B at hb hr ⊢
    have e : n + B % 128 * big i + big (i + 1) * v = n + big i * (B % 128 + 128 * v) := by
      rw [big_succ, Int.mul_add, Int.mul_comm (B % 128), Int.mul_comm 128 (big i), Int.mul_assoc]; omega
    rw [e, show d + (i + 1) = (d + 1) + i by omega, h.goes _ (d + 1) (by omega)]
    have e2 : varL (d + 1) (B % 128 + 128 * v) = B :: varL d v := by
      rw [varL, if_pos (by omega), show (B % 128 + 128 * v) % 128 + 128 = B by omega, show (B % 128 + 128 * v) / 128 = v by omega]
    rw [e2, List.append_assoc]; rfl
theorem varL_short : ∀ (d i : Nat) (x : Int), x < big (i + 1) → (varL d x).length ≤ i + 1
  | 0, _, _, _ => by simp [varL]
  | d + 1, 0, x, h => by
    rw [big_succ, big_zero] at h
    rw [varL, if_neg (by omega)]; simp
  | d + 1, i + 1, x, h => by
    rw [big_succ] at h
    have := varL_short d i (x / 128) (by omega)
    unfold varL
    split <;> simp <;> omega
theorem varL_small (d : Nat) (x : Int) (h : 0 ≤ x ∧ x ≤ 127) : varL d x = [x] := by
  cases d with
  | zero => simp [varL]; omega
  | succ d => rw [varL, if_neg (by omega)]; simp; omega
theorem strOf_toL (l : List Int) : (strOfNums l).toList = Lib.bytesOf l := by rw [toL, strOfNums_data]; rfl
theorem canon_end {s : ByteArray} {at_ i : Nat} {n : Int} {pre : List Int} (h : Canon s at_ i n pre) (hs : at_ + i < s.size) (hb : bt s ((at_ + i : Nat) : Int) ≤ 127) (hi : i ≤ 9) (hn : 0 ≤ n ∧ n < big i) :
    (varT (n + bt s ((at_ + i : Nat) : Int) % 128 * big i)).toList = (s.extract at_ (at_ + i + 1)).toList ↔ ¬ (i > 0 ∧ bt s ((at_ + i : Nat) : Int) = 0) := by
  have hr := bt_range s ((at_ + i : Nat) : Int)
  have e1 : (s.extract at_ (at_ + i + 1)).toList = Lib.bytesOf (pre ++ [bt s ((at_ + i : Nat) : Int)]) := by
    rw [ext_toL, show at_ + i + 1 - at_ = i + 1 by omega, take_bt s at_ i hs, ← h.bytes]; simp [Lib.bytesOf]
  rw [e1]
  generalize hB : bt s ((at_ + i : Nat) : Int) = B at hb hr ⊢
  rw [show B % 128 = B by omega]
  unfold varT
  rw [strOf_toL]
  by_cases c : B = 0
  · subst c
    rw [Int.zero_mul, Int.add_zero]
    rcases Nat.eq_zero_or_pos i with h0 | h0
    · subst h0
      rw [big_zero] at hn
      obtain rfl : n = 0 := by omega
      have : pre = [] := List.eq_nil_of_length_eq_zero h.len
      subst this
      rw [varL_small _ _ (by omega)]
      simp
    · constructor
      · intro he
        have hl := congrArg List.length he
        rw [Lib.bytesOf_length, Lib.bytesOf_length, List.length_append, h.len] at hl
        obtain ⟨j, rfl⟩ : ∃ j, i = j + 1 := ⟨i - 1, by omega⟩
        have := varL_short 9 j n hn.2
        simp at hl; omega
      · intro he; exact absurd ⟨h0, rfl⟩ he
  · have e2 := h.goes B (9 - i) (by omega)
    rw [show 9 - i + i = 9 by omega, Int.mul_comm (big i) B, varL_small (9 - i) B (by omega)] at e2
    rw [e2]
    simp [c]
theorem rvF_var (s : ByteArray) (p : Nat) : ∀ (d e i : Nat) (v acc : Int), 0 ≤ v → v < 128 * big d → 0 ≤ acc → acc + v * big i ≤ 1000000000 → (0 < i → 0 < v) → d ≤ e →
    (∀ j : Nat, j < (varL e v).length → p + i + j < s.size ∧ bt s ((p + i + j : Nat) : Int) = (varL e v).getD j 0) →
    rvF s p (d + 1) i acc = (acc + v * big i, ((p + i + (varL e v).length : Nat) : Int), true) := by
  have one (e : Nat) (d i : Nat) (v acc : Int) (h0 : 0 ≤ v) (h1 : v ≤ 127) (ha : 0 ≤ acc) (hs : acc + v * big i ≤ 1000000000) (hi : 0 < i → 0 < v)
      (hb : ∀ j : Nat, j < (varL e v).length → p + i + j < s.size ∧ bt s ((p + i + j : Nat) : Int) = (varL e v).getD j 0) :
      rvF s p (d + 1) i acc = (acc + v * big i, ((p + i + (varL e v).length : Nat) : Int), true) := by
    rw [varL_small e v ⟨h0, h1⟩] at hb ⊢
    obtain ⟨g1, g2⟩ := hb 0 (by simp)
    rw [Nat.add_zero] at g1 g2
    rw [rvF, if_pos g1, g2]
    simp only [List.getD_cons_zero]
    rw [if_neg (show ¬ v > 127 by omega), show v % 128 = v by omega, if_neg (by omega)]
    simp only [List.length_cons, List.length_nil]
  intro d
  induction d with
  | zero =>
    intro e i v acc h0 h1 ha hs hi _ hb
    rw [big_zero] at h1
    exact one e 0 i v acc h0 (by omega) ha hs hi hb
  | succ d ih =>
    intro e i v acc h0 h1 ha hs hi hde hb
    by_cases c : v ≤ 127
    · exact one e (d + 1) i v acc h0 c ha hs hi hb
    · obtain ⟨e, rfl⟩ : ∃ e', e = e' + 1 := ⟨e - 1, by omega⟩
      have hB := big_pos i
      have e1 : varL (e + 1) v = (v % 128 + 128) :: varL e (v / 128) := by rw [varL, if_pos (by omega)]
      rw [e1] at hb ⊢
      obtain ⟨g1, g2⟩ := hb 0 (by simp)
      rw [Nat.add_zero] at g1 g2
      rw [rvF, if_pos g1, g2]
      simp only [List.getD_cons_zero]
      rw [if_pos (show v % 128 + 128 > 127 by omega), show (v % 128 + 128) % 128 = v % 128 by omega]
      have e2 : acc + v % 128 * big i + v / 128 * big (i + 1) = acc + v * big i := by
        rw [big_succ, ← Int.mul_assoc, Int.add_assoc, ← Int.add_mul]
        congr 2; omega
      have hm : 0 ≤ v % 128 * big i := Int.mul_nonneg (by omega) (by omega)
      rw [big_succ] at h1
      have := ih e (i + 1) (v / 128) (acc + v % 128 * big i) (by omega) (by omega) (by omega) (by rw [e2]; exact hs) (fun _ => by omega) (by omega) (fun j hj => by
        have h := hb (j + 1) (by simpa using hj)
        rw [show p + (i + 1) + j = p + i + (j + 1) by omega]
        simpa using h)
      rw [this, e2]
      simp only [List.length_cons]
      rw [show p + (i + 1) + (varL e (v / 128)).length = p + i + ((varL e (v / 128)).length + 1) by omega]
theorem varT_bt (v : Int) (h : 0 ≤ v) (j : Nat) (hj : j < (varT v).size) : bt (varT v) (j : Int) = (varL 9 v).getD j 0 := by
  unfold varT at hj ⊢
  rw [strOfNums_len] at hj
  exact bb_nums _ j hj (varL_rng 9 v h)
theorem rv_back (x y : ByteArray) (v : Int) (h : 0 ≤ v ∧ v ≤ 1000000000) : rvT (x ++ varT v ++ y) (x.size : Int) = (v, ((x.size + (varT v).size : Nat) : Int), true) := by
  have hsz : (varT v).size = (varL 9 v).length := by unfold varT; rw [strOfNums_len]
  have hs : (x ++ varT v ++ y).size = x.size + (varT v).size + y.size := by rw [ByteArray.size_append, ByteArray.size_append]
  unfold rvT
  rw [if_pos (inB_true.2 (by omega)), Int.toNat_natCast]
  have := rvF_var (x ++ varT v ++ y) x.size 4 9 0 v 0 h.1 (by unfold big; omega) (by omega) (by rw [big_zero]; omega) (fun hh => absurd hh (by omega)) (by omega) (fun j hj => by
    refine ⟨by omega, ?_⟩
    rw [Nat.add_zero, bb_left _ _ _ (by rw [ByteArray.size_append]; omega), bb_right, varT_bt v h.1 j (by omega)])
  rw [this, big_zero, ← hsz]
  simp
def rsT (s : ByteArray) (at_ : Int) : ByteArray × Int × Bool :=
  if (rvT s at_).2.2 = true then
    if (rvT s at_).1 > 20000 then ((⟨#[]⟩ : ByteArray), 0, false)
    else if (rvT s at_).1 > (s.size : Int) - (rvT s at_).2.1 then ((⟨#[]⟩ : ByteArray), 0, false)
    else (s.extract (rvT s at_).2.1.toNat ((rvT s at_).2.1 + (rvT s at_).1).toNat, (rvT s at_).2.1 + (rvT s at_).1, true)
  else ((⟨#[]⟩ : ByteArray), 0, false)
theorem rvF_range (s : ByteArray) (at_ : Nat) : ∀ (d i : Nat) (n : Int), 0 ≤ n → 0 ≤ (rvF s at_ d i n).1 ∧ (rvF s at_ d i n).1 ≤ 1000000000 ∧ 0 ≤ (rvF s at_ d i n).2.1 ∧ (rvF s at_ d i n).2.1 ≤ (s.size : Int)
  | 0, _, _, _ => by simp [rvF]
  | d + 1, i, n, hn => by
    have hb := bt_range s ((at_ + i : Nat) : Int)
    have hp := big_pos i
    have hm : 0 ≤ bt s ((at_ + i : Nat) : Int) % 128 * big i := Int.mul_nonneg (by omega) (by omega)
    unfold rvF
    by_cases c : at_ + i < s.size
    · rw [if_pos c]
      by_cases c2 : bt s ((at_ + i : Nat) : Int) > 127
      · rw [if_pos c2]; exact rvF_range s at_ d (i + 1) _ (by omega)
      · rw [if_neg c2]
        by_cases c3 : (i > 0 ∧ bt s ((at_ + i : Nat) : Int) = 0) ∨ n + bt s ((at_ + i : Nat) : Int) % 128 * big i > 1000000000
        · rw [if_pos c3]; simp
        · rw [if_neg c3]; simp only; omega
    · rw [if_neg c]; simp
theorem rvT_range (s : ByteArray) (at_ : Int) : 0 ≤ (rvT s at_).1 ∧ (rvT s at_).1 ≤ 1000000000 ∧ 0 ≤ (rvT s at_).2.1 ∧ (rvT s at_).2.1 ≤ (s.size : Int) := by
  unfold rvT
  split
  · exact rvF_range s _ 5 0 0 (by omega)
  · simp
def nS (t : ByteArray) (p : Int) (bad : Bool) : Int × Int × Bool := if bad = true then (0, p, true) else if (rvT t p).2.2 = true then ((rvT t p).1, (rvT t p).2.1, false) else (0, p, true)
def sS (t : ByteArray) (p : Int) (bad : Bool) : ByteArray × Int × Bool := if bad = true then ((⟨#[]⟩ : ByteArray), p, true) else if (rsT t p).2.2 = true then ((rsT t p).1, (rsT t p).2.1, false) else ((⟨#[]⟩ : ByteArray), p, true)
def q1 (t : ByteArray) (a : Int) := nS t a false
def q2 (t : ByteArray) (a : Int) := nS t (q1 t a).2.1 (q1 t a).2.2
def q3 (t : ByteArray) (a : Int) := nS t (q2 t a).2.1 (q2 t a).2.2
def q4 (t : ByteArray) (a : Int) := nS t (q3 t a).2.1 (q3 t a).2.2
def q5 (t : ByteArray) (a : Int) := nS t (q4 t a).2.1 (q4 t a).2.2
def q6 (t : ByteArray) (a : Int) := nS t (q5 t a).2.1 (q5 t a).2.2
def q7 (t : ByteArray) (a : Int) := nS t (q6 t a).2.1 (q6 t a).2.2
def q8 (t : ByteArray) (a : Int) := sS t (q7 t a).2.1 (q7 t a).2.2
def q9 (t : ByteArray) (a : Int) := sS t (q8 t a).2.1 (q8 t a).2.2
def q10 (t : ByteArray) (a : Int) := nS t (q9 t a).2.1 (q9 t a).2.2
def q11 (t : ByteArray) (a : Int) := nS t (q10 t a).2.1 (q10 t a).2.2
def q12 (t : ByteArray) (a : Int) := nS t (q11 t a).2.1 (q11 t a).2.2
theorem sS_size (t : ByteArray) (p : Int) (bad : Bool) : (sS t p bad).1.size ≤ t.size := by
  unfold sS
  by_cases c : bad = true
  · rw [if_pos c]; exact Nat.zero_le _
  · rw [if_neg c]
    by_cases c2 : (rsT t p).2.2 = true
    · rw [if_pos c2]
      unfold rsT
      split
      · split
        · exact Nat.zero_le _
        · split
          · exact Nat.zero_le _
          · simp only [ByteArray.size_extract]; omega
      · exact Nat.zero_le _
    · rw [if_neg c2]; exact Nat.zero_le _
theorem rvF_text (s : ByteArray) (at_ : Nat) : ∀ (d i : Nat) (n : Int) (pre : List Int), i + d ≤ 9 → 0 ≤ n ∧ n < big i → Canon s at_ i n pre → (rvF s at_ d i n).2.2 = true →
    (varT (rvF s at_ d i n).1).toList = (s.extract at_ (rvF s at_ d i n).2.1.toNat).toList ∧ (at_ : Int) < (rvF s at_ d i n).2.1 ∧ (rvF s at_ d i n).2.1 ≤ (s.size : Int)
  | 0, _, _, _, _, _, _, h => by simp [rvF] at h
  | d + 1, i, n, pre, hi, hn, hc, h => by
    have hb := bt_range s ((at_ + i : Nat) : Int)
    unfold rvF at h ⊢
    by_cases c : at_ + i < s.size
    · rw [if_pos c] at h ⊢
      by_cases c2 : bt s ((at_ + i : Nat) : Int) > 127
      · rw [if_pos c2] at h ⊢
        exact rvF_text s at_ d (i + 1) _ _ (by omega) (big_step n _ i hn (by omega)) (canon_step hc c c2) h
      · rw [if_neg c2] at h ⊢
        by_cases c3 : (i > 0 ∧ bt s ((at_ + i : Nat) : Int) = 0) ∨ n + bt s ((at_ + i : Nat) : Int) % 128 * big i > 1000000000
        · rw [if_pos c3] at h; cases h
        · rw [if_neg c3] at h ⊢
          have := (canon_end hc c (by omega) (by omega) hn).2 (fun hh => c3 (Or.inl hh))
          refine ⟨?_, by show (at_ : Int) < ((at_ + i + 1 : Nat) : Int); omega, by show ((at_ + i + 1 : Nat) : Int) ≤ (s.size : Int); omega⟩
          rw [Int.toNat_natCast]
          exact this
    · rw [if_neg c] at h; cases h
theorem rv_text {s : ByteArray} {p : Int} (h : (rvT s p).2.2 = true) : 0 ≤ p ∧ p ≤ (rvT s p).2.1 ∧ (rvT s p).2.1 ≤ (s.size : Int) ∧ varT (rvT s p).1 = s.extract p.toNat (rvT s p).2.1.toNat := by
  unfold rvT at h ⊢
  by_cases c : inB p 0 (s.size : Int) = true
  · rw [if_pos c] at h ⊢
    have hp := inB_true.1 c
    obtain ⟨h1, h2, h3⟩ := rvF_text s p.toNat 5 0 0 [] (by omega) (by rw [big_zero]; omega) (canon_zero s _) h
    exact ⟨hp.1, by omega, h3, ext_eq h1⟩
  · rw [if_neg c] at h; cases h
theorem ext_join (s : ByteArray) (a b c : Nat) (h1 : a ≤ b) (h2 : b ≤ c) (h3 : c ≤ s.size) : s.extract a b ++ s.extract b c = s.extract a c := by
  apply ext_eq
  rw [app_toL, ext_toL, ext_toL, ext_toL]
  have e : s.toList.drop b = (s.toList.drop a).drop (b - a) := by rw [List.drop_drop]; congr 1; omega
  rw [e, show c - a = (b - a) + (c - b) by omega, List.take_add]
theorem rs_text {s : ByteArray} {p : Int} (h : (rsT s p).2.2 = true) : 0 ≤ p ∧ p ≤ (rsT s p).2.1 ∧ (rsT s p).2.1 ≤ (s.size : Int) ∧ shT (rsT s p).1 = s.extract p.toNat (rsT s p).2.1.toNat := by
  have hr := rvT_range s p
  unfold rsT at h ⊢
  by_cases c : (rvT s p).2.2 = true
  · rw [if_pos c] at h ⊢
    obtain ⟨t0, t1, t2, t3⟩ := rv_text c
    by_cases c2 : (rvT s p).1 > 20000
    · rw [if_pos c2] at h; cases h
    · rw [if_neg c2] at h ⊢
      by_cases c3 : (rvT s p).1 > (s.size : Int) - (rvT s p).2.1
      · rw [if_pos c3] at h; cases h
      · rw [if_neg c3] at h ⊢
        refine ⟨t0, by show p ≤ (rvT s p).2.1 + (rvT s p).1; omega, by show (rvT s p).2.1 + (rvT s p).1 ≤ (s.size : Int); omega, ?_⟩
        show shT (s.extract (rvT s p).2.1.toNat ((rvT s p).2.1 + (rvT s p).1).toNat) = s.extract p.toNat ((rvT s p).2.1 + (rvT s p).1).toNat
        unfold shT
        have hz : ((s.extract (rvT s p).2.1.toNat ((rvT s p).2.1 + (rvT s p).1).toNat).size : Int) = (rvT s p).1 := by rw [ByteArray.size_extract]; omega
        rw [hz, t3, ext_join s _ _ _ (by omega) (by omega) (by omega)]
  · rw [if_neg c] at h; cases h
theorem nS_bad (t : ByteArray) (p : Int) : nS t p true = (0, p, true) := by unfold nS; rw [if_pos rfl]
theorem sS_bad (t : ByteArray) (p : Int) : sS t p true = ((⟨#[]⟩ : ByteArray), p, true) := by unfold sS; rw [if_pos rfl]
theorem nS_good {t : ByteArray} {p : Int} {b : Bool} (h : (nS t p b).2.2 = false) : b = false ∧ 0 ≤ p ∧ p ≤ (nS t p b).2.1 ∧ (nS t p b).2.1 ≤ (t.size : Int) ∧ varT (nS t p b).1 = t.extract p.toNat (nS t p b).2.1.toNat := by
  cases b with
  | true => rw [nS_bad] at h; cases h
  | false =>
    unfold nS at h ⊢
    rw [if_neg (by simp)] at h ⊢
    by_cases c : (rvT t p).2.2 = true
    · rw [if_pos c] at h ⊢
      exact ⟨rfl, rv_text c⟩
    · rw [if_neg c] at h; cases h
theorem sS_good {t : ByteArray} {p : Int} {b : Bool} (h : (sS t p b).2.2 = false) : b = false ∧ 0 ≤ p ∧ p ≤ (sS t p b).2.1 ∧ (sS t p b).2.1 ≤ (t.size : Int) ∧ shT (sS t p b).1 = t.extract p.toNat (sS t p b).2.1.toNat := by
  cases b with
  | true => rw [sS_bad] at h; cases h
  | false =>
    unfold sS at h ⊢
    rw [if_neg (by simp)] at h ⊢
    by_cases c : (rsT t p).2.2 = true
    · rw [if_pos c] at h ⊢
      exact ⟨rfl, rs_text c⟩
    · rw [if_neg c] at h; cases h
theorem read_text {t : ByteArray} {a : Int} (h : (q12 t a).2.2 = false) : 0 ≤ a ∧ a ≤ (q12 t a).2.1 ∧ (q12 t a).2.1 ≤ (t.size : Int) ∧
    actT (q1 t a).1 (q2 t a).1 (q3 t a).1 [(q4 t a).1, (q5 t a).1, (q6 t a).1] (q7 t a).1 (q8 t a).1 (q9 t a).1 (q10 t a).1 (q11 t a).1 (q12 t a).1 = t.extract a.toNat (q12 t a).2.1.toNat := by
  obtain ⟨b11, z12, y12, x12, e12⟩ := nS_good h
  obtain ⟨b10, z11, y11, x11, e11⟩ := nS_good (t := t) (p := (q10 t a).2.1) (b := (q10 t a).2.2) b11
  obtain ⟨b9, z10, y10, x10, e10⟩ := nS_good (t := t) (p := (q9 t a).2.1) (b := (q9 t a).2.2) b10
  obtain ⟨b8, z9, y9, x9, e9⟩ := sS_good (t := t) (p := (q8 t a).2.1) (b := (q8 t a).2.2) b9
  obtain ⟨b7, z8, y8, x8, e8⟩ := sS_good (t := t) (p := (q7 t a).2.1) (b := (q7 t a).2.2) b8
  obtain ⟨b6, z7, y7, x7, e7⟩ := nS_good (t := t) (p := (q6 t a).2.1) (b := (q6 t a).2.2) b7
  obtain ⟨b5, z6, y6, x6, e6⟩ := nS_good (t := t) (p := (q5 t a).2.1) (b := (q5 t a).2.2) b6
  obtain ⟨b4, z5, y5, x5, e5⟩ := nS_good (t := t) (p := (q4 t a).2.1) (b := (q4 t a).2.2) b5
  obtain ⟨b3, z4, y4, x4, e4⟩ := nS_good (t := t) (p := (q3 t a).2.1) (b := (q3 t a).2.2) b4
  obtain ⟨b2, z3, y3, x3, e3⟩ := nS_good (t := t) (p := (q2 t a).2.1) (b := (q2 t a).2.2) b3
  obtain ⟨b1, z2, y2, x2, e2⟩ := nS_good (t := t) (p := (q1 t a).2.1) (b := (q1 t a).2.2) b2
  obtain ⟨_, z1, y1, x1, e1⟩ := nS_good (t := t) (p := a) (b := false) b1
  change varT (q12 t a).1 = t.extract _ (q12 t a).2.1.toNat at e12
  change varT (q11 t a).1 = t.extract _ (q11 t a).2.1.toNat at e11
  change varT (q10 t a).1 = t.extract _ (q10 t a).2.1.toNat at e10
  change shT (q9 t a).1 = t.extract _ (q9 t a).2.1.toNat at e9
  change shT (q8 t a).1 = t.extract _ (q8 t a).2.1.toNat at e8
  change varT (q7 t a).1 = t.extract _ (q7 t a).2.1.toNat at e7
  change varT (q6 t a).1 = t.extract _ (q6 t a).2.1.toNat at e6
  change varT (q5 t a).1 = t.extract _ (q5 t a).2.1.toNat at e5
  change varT (q4 t a).1 = t.extract _ (q4 t a).2.1.toNat at e4
  change varT (q3 t a).1 = t.extract _ (q3 t a).2.1.toNat at e3
  change varT (q2 t a).1 = t.extract _ (q2 t a).2.1.toNat at e2
  change varT (q1 t a).1 = t.extract _ (q1 t a).2.1.toNat at e1
  change (q11 t a).2.1 ≤ (q12 t a).2.1 at y12
  change (q12 t a).2.1 ≤ (t.size : Int) at x12
  change (q10 t a).2.1 ≤ (q11 t a).2.1 at y11
  change (q9 t a).2.1 ≤ (q10 t a).2.1 at y10
  change (q8 t a).2.1 ≤ (q9 t a).2.1 at y9
  change (q7 t a).2.1 ≤ (q8 t a).2.1 at y8
  change (q6 t a).2.1 ≤ (q7 t a).2.1 at y7
  change (q5 t a).2.1 ≤ (q6 t a).2.1 at y6
  change (q4 t a).2.1 ≤ (q5 t a).2.1 at y5
  change (q3 t a).2.1 ≤ (q4 t a).2.1 at y4
  change (q2 t a).2.1 ≤ (q3 t a).2.1 at y3
  change (q1 t a).2.1 ≤ (q2 t a).2.1 at y2
  change a ≤ (q1 t a).2.1 at y1
  refine ⟨z1, by omega, x12, ?_⟩
  unfold actT
  have hk : varTs [(q4 t a).1, (q5 t a).1, (q6 t a).1] (⟨#[]⟩ : ByteArray) = t.extract (q3 t a).2.1.toNat (q6 t a).2.1.toNat := by
    simp only [varTs]
    rw [show (⟨#[]⟩ : ByteArray) ++ varT (q4 t a).1 = varT (q4 t a).1 from ByteArray.empty_append, e4, e5, e6, ext_join t _ _ _ (by omega) (by omega) (by omega), ext_join t _ _ _ (by omega) (by omega) (by omega)]
  rw [hk, e1, e2, e3, e7, e8, e9, e10, e11, e12]
  rw [ext_join t a.toNat _ _ (by omega) (by omega) (by omega), ext_join t a.toNat _ _ (by omega) (by omega) (by omega), ext_join t a.toNat _ _ (by omega) (by omega) (by omega), ext_join t a.toNat _ _ (by omega) (by omega) (by omega), ext_join t a.toNat _ _ (by omega) (by omega) (by omega), ext_join t a.toNat _ _ (by omega) (by omega) (by omega), ext_join t a.toNat _ _ (by omega) (by omega) (by omega),
    ext_join t (q10 t a).2.1.toNat _ _ (by omega) (by omega) (by omega), ext_join t a.toNat _ _ (by omega) (by omega) (by omega)]
def readB (t : ByteArray) (a : Int) : Bool := if (q12 t a).2.2 = true then false else actB (q1 t a).1 (q2 t a).1 (q3 t a).1 [(q4 t a).1, (q5 t a).1, (q6 t a).1] (q7 t a).1 (q8 t a).1 (q9 t a).1 (q10 t a).1 (q11 t a).1 (q12 t a).1
def readA (t : ByteArray) (a : Int) : Int × Int × Int × List Int × Int × ByteArray × ByteArray × Int × Int × Int × Int × Bool :=
  if readB t a = true then ((q1 t a).1, (q2 t a).1, (q3 t a).1, [(q4 t a).1, (q5 t a).1, (q6 t a).1], (q7 t a).1, (q8 t a).1, (q9 t a).1, (q10 t a).1, (q11 t a).1, (q12 t a).1, (q12 t a).2.1, true) else (0, 0, 0, ([] : List Int), 0, (⟨#[]⟩ : ByteArray), (⟨#[]⟩ : ByteArray), 0, 0, 0, 0, false)
theorem readA_len (t : ByteArray) (a : Int) : (readA t a).2.2.2.1.length ≤ 3 := by unfold readA; split <;> simp
theorem impl_KnowOk_l0 (l : List Int) (hl : l.length ≤ 140737488351232) : ∀ d i, i + d = l.length → Ev (fun k => impl_KnowOk.l0 k l l (l.length : Int) (i : Int)) (((l.drop i).all fun x => inB x 0 1000) && ((l.length : Int) == 3))
  | 0, i, hi => by
    refine Ev.step (fun k => rfl) ?_
    simp only [impl_KnowOk.l0, if_neg (show ¬ (i : Int) < (l.length : Int) by omega), List.drop_eq_nil_of_le (show l.length ≤ i by omega), List.all_nil, Bool.true_and]
    exact Ev.now _
  | d + 1, i, hi => by
    refine Ev.step (fun k => rfl) ?_
    have ih := impl_KnowOk_l0 l hl d (i + 1) (by omega)
    simp only [impl_KnowOk.l0, if_pos (show (i : Int) < (l.length : Int) by omega), if_pos (show (0 : Int) ≤ (i : Int) by omega), wr i (by omega), impl_in, Option.bind_some, all_drop l i (by omega)]
    cases inB (rd l (i : Int)) 0 1000
    · exact Ev.now _
    · exact ih
theorem impl_KnowOk_ev (l : List Int) (hl : l.length ≤ 140737488351232) : Ev (fun k => impl_KnowOk.f k l) (knowB l) := impl_KnowOk_l0 l hl l.length 0 (by omega)
theorem impl_DotOk_eq (r s : Int) : impl_DotOk.f r s = some (dotB r s) := by
  unfold impl_DotOk.f dotB
  simp only [impl_in, Option.bind_some]
  split <;> rfl
theorem impl_Knows_ev (l : List Int) (r s : Int) (hl : l.length ≤ 140737488351232) : Ev (fun k => impl_Knows.f k l r s) (knowsB l r s) := by
  unfold impl_Knows.f knowsB
  refine Ev.bind (impl_KnowOk_ev l hl) ?_
  by_cases ka : knowB l = true
  · simp only [if_pos ka, impl_DotOk_eq, Option.bind_some]
    by_cases kd : dotB r s = true
    · simp only [if_pos kd]
      have h1 : 0 ≤ r ∧ r ≤ 2 := by
        unfold dotB at kd
        by_cases c : inB r 0 2 = true
        · exact inB_true.1 c
        · simp [c] at kd
      have h2 : (l.length : Int) = 3 := by
        unfold knowB at ka
        simp only [Bool.and_eq_true, beq_iff_eq] at ka
        exact ka.2
      simp only [if_pos h1.1, if_pos (show r < (l.length : Int) by omega)]
      exact Ev.now _
    · simp only [if_neg kd]; exact Ev.now _
  · simp only [if_neg ka]; exact Ev.now _
theorem impl_NameOk_l0 (s : ByteArray) (hs : s.size ≤ 140737488351232) : ∀ d i, i + d = s.size → Ev (fun k => impl_NameOk.l0 k s (i : Int)) (nameB s d i)
  | 0, i, hi => by
    refine Ev.step (fun k => rfl) ?_
    simp only [impl_NameOk.l0, if_neg (show ¬ (i : Int) < (s.size : Int) by omega), impl_in, Option.bind_some]
    exact Ev.now _
  | d + 1, i, hi => by
    refine Ev.step (fun k => rfl) ?_
    have ih := impl_NameOk_l0 s hs d (i + 1) (by omega)
    have hb := bt_range s (i : Int)
    simp only [impl_NameOk.l0, if_pos (show (i : Int) < (s.size : Int) by omega), if_pos (show (0 : Int) ≤ (i : Int) by omega), wr i (by omega), nameB, wi (n := bt s (i : Int)) (by omega), impl_in, Option.bind_some]
    cases inB (bt s (i : Int)) 97 122
    · exact Ev.now _
    · exact ih
theorem impl_NameOk_ev (s : ByteArray) (hs : s.size ≤ 140737488351232) : Ev (fun k => impl_NameOk.f k s) (nameB s s.size 0) := impl_NameOk_l0 s hs s.size 0 (by omega)
theorem impl_hasKey_eq (kind : Int) : impl_hasKey.f kind = some (inB kind 2 5) := by simp [impl_hasKey.f, impl_in]
theorem impl_hasVal_eq (kind : Int) : impl_hasVal.f kind = some (valuedB kind) := by
  unfold impl_hasVal.f valuedB
  split
  · rfl
  · split <;> rfl
theorem impl_val_ev (kind val : Int) : Ev (fun _ => if val = 0 then some true else (if valuedB kind = true then some (inB val 0 999999) else some false)) (valB kind val) := by
  unfold valB
  by_cases c : val = 0
  · simp only [if_pos c]; exact Ev.now _
  · simp only [if_neg c]
    by_cases c2 : valuedB kind = true
    · simp only [if_pos c2]; exact Ev.now _
    · simp only [if_neg c2]; exact Ev.now _
theorem impl_wordsOk_ev (kind : Int) (obj key : ByteArray) (val : Int) (ho : obj.size ≤ 140737488351232) (hk : key.size ≤ 140737488351232) : Ev (fun k => impl_wordsOk.f k kind obj key val) (wordsB kind obj key val) := by
  unfold impl_wordsOk.f wordsB
  simp only [impl_in, Option.bind_some]
  by_cases c1 : inB kind 1 7 = true
  · simp only [if_pos c1]
    refine Ev.bind (impl_NameOk_ev obj ho) ?_
    show Ev _ (if nm obj = true then _ else _)
    refine Ev.step (fun k => rfl) ?_
    by_cases c2 : nm obj = true
    · have c2' : nameB obj obj.size 0 = true := c2
      simp only [impl_wordsOk.j0, c2', Bool.not_true, Bool.false_eq_true, if_false, if_pos c2, impl_hasKey_eq, impl_hasVal_eq, impl_in, Option.bind_some]
      by_cases c4 : key.toList = []
      · have e := nm_empty c4
        simp only [if_pos c4, e, Bool.false_eq_true, if_false]
        by_cases c3 : inB kind 2 5 = true
        · simp only [if_pos c3]
          refine Ev.bind (impl_NameOk_ev key hk) ?_
          have e' : nameB key key.size 0 = false := e
          simp only [e', Bool.false_eq_true, if_false]; exact Ev.now _
        · simp only [if_neg c3]; exact impl_val_ev kind val
      · simp only [if_neg c4]
        refine Ev.bind (impl_NameOk_ev key hk) ?_
        by_cases c5 : nm key = true
        · have c5' : nameB key key.size 0 = true := c5
          simp only [if_pos c5', if_pos c5]
          by_cases c3 : inB kind 2 5 = true
          · simp only [if_pos c3]; exact impl_val_ev kind val
          · simp only [if_neg c3]; exact Ev.now _
        · have c5' : ¬ nameB key key.size 0 = true := c5
          simp only [if_neg c5', if_neg c5, ite_self]; exact Ev.now _
    · have c2' : nameB obj obj.size 0 = false := Bool.eq_false_iff.2 c2
      simp only [impl_wordsOk.j0, c2', Bool.not_false, if_true, if_neg c2]; exact Ev.now _
  · simp only [if_neg c1]
    refine Ev.step (fun k => rfl) ?_
    simp only [impl_wordsOk.j0, if_true]; exact Ev.now _
theorem impl_ActOk_no (a b c : Int) (l : List Int) (d : Int) (s t : ByteArray) (e f g : Int) : Ev (fun k => impl_ActOk.j0 k true a b c l d s t e f g) false := by
  refine Ev.step (fun k => rfl) ?_
  simp only [impl_ActOk.j0, if_true]; exact Ev.now _
theorem impl_ActOk_j0 (a b c : Int) (l : List Int) (d : Int) (s t : ByteArray) (e f g : Int) (hl : l.length ≤ 140737488351232) (hs : s.size ≤ 140737488351232) (ht : t.size ≤ 140737488351232) : Ev (fun k => impl_ActOk.j0 k false a b c l d s t e f g) (if wordsB d s t e = true then refB d l f g else false) := by
  have W := impl_wordsOk_ev d s t e hs ht
  have K := impl_Knows_ev l f g hl
  refine Ev.step (fun k => rfl) ?_
  simp only [impl_ActOk.j0, Bool.false_eq_true, if_false, refB]
  by_cases c1 : d = 7
  · simp only [if_pos c1]
    refine Ev.bind K ?_
    cases knowsB l f g
    · simp only [Bool.false_eq_true, if_false, ite_self]; exact Ev.now _
    · simp only [if_true]
      refine Ev.bind W ?_
      cases wordsB d s t e <;> exact Ev.now _
  · simp only [if_neg c1]
    by_cases c2 : d = 6
    · simp only [if_pos c2]
      cases (f == 0 && (g == 0))
      · simp only [Bool.false_eq_true, if_false]
        refine Ev.bind K ?_
        cases knowsB l f g
        · simp only [Bool.false_eq_true, if_false, ite_self]; exact Ev.now _
        · simp only [if_true]
          refine Ev.bind W ?_
          cases wordsB d s t e <;> exact Ev.now _
      · simp only [if_true]
        refine Ev.bind W ?_
        cases wordsB d s t e <;> exact Ev.now _
    · simp only [if_neg c2]
      cases (f == 0 && (g == 0))
      · simp only [Bool.false_eq_true, if_false, ite_self]; exact Ev.now _
      · simp only [if_true]
        refine Ev.bind W ?_
        cases wordsB d s t e <;> exact Ev.now _
theorem impl_ActOk_ev (a b c : Int) (l : List Int) (d : Int) (s t : ByteArray) (e f g : Int) (hl : l.length ≤ 140737488351232) (hs : s.size ≤ 140737488351232) (ht : t.size ≤ 140737488351232) : Ev (fun k => impl_ActOk.f k a b c l d s t e f g) (actB a b c l d s t e f g) := by
  unfold impl_ActOk.f actB
  simp only [impl_DotOk_eq, impl_in, Option.bind_some]
  by_cases c1 : dotB a b = true
  · have h1 := dotB_true c1
    simp only [if_pos c1]
    refine Ev.bind (impl_KnowOk_ev l hl) ?_
    by_cases c2 : knowB l = true
    · have h2 := know_len c2
      simp only [if_pos c2, if_pos h1.1.1, if_pos (show a < (l.length : Int) by omega), wi (n := b - 1) (by omega)]
      by_cases c3 : rd l a = b - 1
      · simp only [if_pos c3]
        by_cases c4 : inB c 1 10000 = true
        · simp only [if_pos c4, c4, Bool.not_true]; exact impl_ActOk_j0 a b c l d s t e f g hl hs ht
        · simp only [if_neg c4, Bool.eq_false_iff.2 c4, Bool.not_false]; exact impl_ActOk_no ..
      · simp only [if_neg c3]; exact impl_ActOk_no ..
    · simp only [if_neg c2]; exact impl_ActOk_no ..
  · simp only [if_neg c1]; exact impl_ActOk_no ..
theorem impl_VarText_l0 : ∀ (d : Nat) (x : Int) (out : List Int), 0 ≤ x → x ≤ 9223372036854775807 → x < 128 * big d → out.length + d ≤ 100 → Ev (fun k => impl_VarText.l0 k x out) (strOfNums (out ++ varL d x), true)
  | 0, x, out, h0, hm, hx, hl => by
    refine Ev.step (fun k => rfl) ?_
    rw [big_zero] at hx
    simp only [impl_VarText.l0, if_neg (show ¬ x > 127 by omega), if_pos (show out.length < 140737488355328 by omega), varL]
    exact Ev.now _
  | d + 1, x, out, h0, hm, hx, hl => by
    refine Ev.step (fun k => rfl) ?_
    rw [big_succ] at hx
    by_cases c : x > 127
    · have e1 : wrap64 (Int.tdiv x 128) = x / 128 := by rw [Int.tdiv_eq_ediv_of_nonneg h0]; exact wi (by omega)
      have e2 : (wrap64 ((Int.tmod x 128) + 128)) % 256 = x % 128 + 128 := by rw [Int.tmod_eq_emod_of_nonneg h0, wi (by omega)]; omega
      have ih := impl_VarText_l0 d (x / 128) (out ++ [x % 128 + 128]) (by omega) (by omega) (by omega) (by simp; omega)
      simp only [impl_VarText.l0, if_pos c, if_pos (show out.length < 140737488355328 by omega), e1, e2, varL]
      simpa using ih
    · simp only [impl_VarText.l0, if_neg c, if_pos (show out.length < 140737488355328 by omega), varL]
      exact Ev.now _
theorem impl_VarText_ev (x : Int) : Ev (fun k => impl_VarText.f k x) (if inB x 0 1000000000 = true then (varT x, true) else ((⟨#[]⟩ : ByteArray), false)) := by
  unfold impl_VarText.f
  simp only [impl_in, Option.bind_some]
  by_cases c : inB x 0 1000000000 = true
  · simp only [if_pos c]
    have := inB_true.1 c
    exact impl_VarText_l0 9 x [] (by omega) (by omega) (by unfold big; omega) (by simp)
  · simp only [if_neg c]
    exact Ev.now _
theorem impl_ShortText_ev (s : ByteArray) (hs : s.size ≤ 140737488351232) : Ev (fun k => impl_ShortText.f k s) (shortT s) := by
  unfold impl_ShortText.f shortT
  by_cases c : (s.size : Int) > 20000
  · simp only [if_pos c]; exact Ev.now _
  · simp only [if_neg c]
    refine Ev.bind (impl_VarText_ev _) ?_
    have := varT_size (s.size : Int)
    simp only [if_pos (inB_true.2 (show 0 ≤ (s.size : Int) ∧ (s.size : Int) ≤ 1000000000 by omega)), if_pos (show (varT (s.size : Int)).size + s.size ≤ 9223372036854775807 by omega)]
    exact Ev.now _
theorem impl_var_ev {x : Int} (h : small x) : Ev (fun k => impl_VarText.f k x) (varT x, true) := by
  have := impl_VarText_ev x
  rwa [if_pos (inB_true.2 h)] at this
theorem impl_varTexts_l0 (l : List Int) (hl : l.length ≤ 1000) (hx : ∀ x ∈ l, small x) : ∀ d i (out : ByteArray), i + d = l.length → out.size ≤ 10 * i → Ev (fun k => impl_varTexts.l0 k out l (l.length : Int) (i : Int)) (varTs (l.drop i) out)
  | 0, i, out, hi, ho => by
    refine Ev.step (fun k => rfl) ?_
    simp only [impl_varTexts.l0, if_neg (show ¬ (i : Int) < (l.length : Int) by omega), List.drop_eq_nil_of_le (show l.length ≤ i by omega), varTs]
    exact Ev.now _
  | d + 1, i, out, hi, ho => by
    refine Ev.step (fun k => rfl) ?_
    have hz := varT_size (rd l (i : Int))
    simp only [impl_varTexts.l0, if_pos (show (i : Int) < (l.length : Int) by omega), if_pos (show (0 : Int) ≤ (i : Int) by omega), wr i (by omega), drop_rd l i (by omega), varTs]
    refine Ev.bind (impl_var_ev (hx _ (by rw [rd_get l i (by omega)]; exact List.getElem_mem _))) ?_
    simp only [if_pos (show out.size + (varT (rd l (i : Int))).size ≤ 9223372036854775807 by omega)]
    exact impl_varTexts_l0 l hl hx d (i + 1) _ (by omega) (by rw [ByteArray.size_append]; omega)
theorem impl_varTexts_ev (l : List Int) (hl : l.length ≤ 1000) (hx : ∀ x ∈ l, small x) : Ev (fun k => impl_varTexts.f k l) (varTs l (⟨#[]⟩ : ByteArray)) :=
  impl_varTexts_l0 l hl hx l.length 0 _ (by omega) (by decide)
theorem impl_short_ev (s : ByteArray) (h : s.size ≤ 1000) : Ev (fun k => impl_ShortText.f k s) (shT s, true) := by
  have := impl_ShortText_ev s (by omega)
  unfold shortT at this
  rwa [if_neg (show ¬ (s.size : Int) > 20000 by omega)] at this
theorem rs0 (s t : ByteArray) : rdOf ByteArray.empty [s, t] 0 = s := by simp [rdOf]
theorem rs1 (s t : ByteArray) : rdOf ByteArray.empty [s, t] 1 = t := by simp [rdOf]
theorem impl_shortTexts_ev (s t : ByteArray) (hs : s.size ≤ 1000) (ht : t.size ≤ 1000) : Ev (fun k => impl_shortTexts.f k [s, t]) (shT s ++ shT t) := by
  have z6 := varT_size (s.size : Int)
  have z7 := varT_size (t.size : Int)
  have hz : (shT s).size ≤ 1010 := by unfold shT; rw [ByteArray.size_append]; omega
  have hz2 : (shT t).size ≤ 1010 := by unfold shT; rw [ByteArray.size_append]; omega
  unfold impl_shortTexts.f
  have l2 : (([s, t] : List ByteArray).length : Int) = 2 := by simp
  simp only [l2]
  refine Ev.step (fun k => rfl) ?_
  simp only [impl_shortTexts.l0, l2, if_pos (show (0 : Int) < 2 by omega), if_pos (show (0 : Int) ≤ 0 by omega), rs0, w1]
  refine Ev.bind (impl_short_ev s hs) ?_
  have e0 : (⟨#[]⟩ : ByteArray) ++ shT s = shT s := ByteArray.empty_append
  have n0 : (⟨#[]⟩ : ByteArray).size = 0 := by decide
  simp only [n0, if_pos (show 0 + (shT s).size ≤ 9223372036854775807 by omega), e0]
  refine Ev.step (fun k => rfl) ?_
  simp only [impl_shortTexts.l0, l2, if_pos (show (1 : Int) < 2 by omega), if_pos (show (0 : Int) ≤ 1 by omega), rs1, w2]
  refine Ev.bind (impl_short_ev t ht) ?_
  simp only [if_pos (show (shT s).size + (shT t).size ≤ 9223372036854775807 by omega)]
  refine Ev.step (fun k => rfl) ?_
  simp only [impl_shortTexts.l0, if_neg (show ¬ (2 : Int) < 2 by omega)]
  exact Ev.now _
theorem three_varTs (a b c : Int) : varTs [a, b, c] (⟨#[]⟩ : ByteArray) = (varT a ++ varT b) ++ varT c := by
  simp only [varTs]
  rw [show (⟨#[]⟩ : ByteArray) ++ varT a = varT a from ByteArray.empty_append]
theorem one_varTs (a : Int) : varTs [a] (⟨#[]⟩ : ByteArray) = varT a := by
  simp only [varTs]
  exact ByteArray.empty_append
theorem impl_ActText_ev (a b c : Int) (l : List Int) (d : Int) (s t : ByteArray) (e f g : Int) (hl : l.length ≤ 140737488351232) (hs : s.size ≤ 140737488351232) (ht : t.size ≤ 140737488351232) :
    Ev (fun k => impl_ActText.f k a b c l d s t e f g) (if actB a b c l d s t e f g = true then (actT a b c l d s t e f g, true) else ((⟨#[]⟩ : ByteArray), false)) := by
  unfold impl_ActText.f
  refine Ev.bind (impl_ActOk_ev a b c l d s t e f g hl hs ht) ?_
  by_cases h : actB a b c l d s t e f g = true
  · simp only [if_pos h]
    have o := act_ok h
    have z1 := varT_size a
    have z2 := varT_size b
    have z3 := varT_size c
    have z4 := varTs_len l (⟨#[]⟩ : ByteArray)
    rw [o.len, show (⟨#[]⟩ : ByteArray).size = 0 from rfl] at z4
    have z5 := varT_size d
    have z6 := varT_size (s.size : Int)
    have z7 := varT_size (t.size : Int)
    have z8 := varT_size e
    have z9 := varT_size f
    have z10 := varT_size g
    have z11 := o.obj
    have z12 := o.key
    have v1 := impl_varTexts_ev [a, b, c] (by simp) (by simp; exact ⟨o.rep, o.seq, o.time⟩)
    have v2 := impl_varTexts_ev [d] (by simp) (by simp; exact o.kind)
    have v3 := impl_varTexts_ev [e, f, g] (by simp) (by simp; exact ⟨o.val, o.r, o.s⟩)
    rw [three_varTs] at v1 v3
    rw [one_varTs] at v2
    refine Ev.bind v1 (Ev.bind (impl_varTexts_ev l (by rw [o.len]; omega) o.knew) ?_)
    simp only [if_pos (show ((varT a ++ varT b) ++ varT c).size + (varTs l (⟨#[]⟩ : ByteArray)).size ≤ 9223372036854775807 by simp only [ByteArray.size_append]; omega)]
    refine Ev.bind v2 ?_
    simp only [if_pos (show (((varT a ++ varT b) ++ varT c) ++ varTs l (⟨#[]⟩ : ByteArray)).size + (varT d).size ≤ 9223372036854775807 by simp only [ByteArray.size_append]; omega)]
    refine Ev.bind (impl_shortTexts_ev s t (by omega) (by omega)) ?_
    simp only [if_pos (show ((((varT a ++ varT b) ++ varT c) ++ varTs l (⟨#[]⟩ : ByteArray)) ++ varT d).size + (shT s ++ shT t).size ≤ 9223372036854775807 by unfold shT; simp only [ByteArray.size_append]; omega)]
    refine Ev.bind v3 ?_
    simp only [if_pos (show (((((varT a ++ varT b) ++ varT c) ++ varTs l (⟨#[]⟩ : ByteArray)) ++ varT d) ++ (shT s ++ shT t)).size + ((varT e ++ varT f) ++ varT g).size ≤ 9223372036854775807 by unfold shT; simp only [ByteArray.size_append]; omega)]
    have eq : ((((((varT a ++ varT b) ++ varT c) ++ varTs l (⟨#[]⟩ : ByteArray)) ++ varT d) ++ (shT s ++ shT t)) ++ ((varT e ++ varT f) ++ varT g)) = actT a b c l d s t e f g := by
      unfold actT; simp only [ByteArray.append_assoc]
    rw [eq]
    exact Ev.now _
  · simp only [if_neg h]; exact Ev.now _
theorem impl_ReadVar_l0 (s : ByteArray) (hs : s.size ≤ 140737488351232) (at_ : Nat) (ha : at_ ≤ s.size) : ∀ (d i : Nat) (n : Int), i + d = 5 → 0 ≤ n ∧ n < big i → Ev (fun k => impl_ReadVar.l0 k s (at_ : Int) n (i : Int)) (rvF s at_ d i n)
  | 0, i, n, hi, hn => by
    refine Ev.step (fun k => rfl) ?_
    simp only [impl_ReadVar.l0, if_neg (show ¬ (i : Int) < 5 by omega)]
    refine Ev.step (fun k => rfl) ?_
    simp only [impl_ReadVar.j1, Bool.false_eq_true, if_false]
    exact Ev.now _
  | d + 1, i, n, hi, hn => by
    refine Ev.step (fun k => rfl) ?_
    have e1 : wrap64 ((at_ : Int) + (i : Int)) = ((at_ + i : Nat) : Int) := by rw [wi (by omega)]; omega
    simp only [impl_ReadVar.l0, if_pos (show (i : Int) < 5 by omega), e1, rvF]
    refine Ev.step (fun k => rfl) ?_
    by_cases c : at_ + i < s.size
    · have hb := bt_range s ((at_ + i : Nat) : Int)
      generalize hB : bt s ((at_ + i : Nat) : Int) = B at hb ⊢
      have e3 : Int.tmod B 128 = B % 128 := Int.tmod_eq_emod_of_nonneg hb.1
      have hbig := big_le (i + 1) (by omega)
      have hst := big_step n (B % 128) i hn (by omega)
      have e4 : wrap64 (n + shl .i64 (Int.tmod (wrap64 B) 128) (wrap64 (7 * (i : Int)))) = n + B % 128 * big i := by
        rw [wi (n := B) (by omega), e3, shl_big _ (by omega) i (by omega), wi (by omega)]
      simp only [impl_ReadVar.j1, e1, show decide (((at_ + i : Nat) : Int) < (s.size : Int)) = true from decide_eq_true (by omega), if_pos (show (0 : Int) ≤ ((at_ + i : Nat) : Int) by omega), if_pos (show ((at_ + i : Nat) : Int) < (s.size : Int) by omega), if_pos c, if_true, hB, wi (n := B) (by omega), wi (n := 7 * (i : Int)) (by omega), if_pos (show 0 ≤ 7 * (i : Int) by omega)]
      have e5 : wrap64 (n + shl .i64 (Int.tmod B 128) (7 * (i : Int))) = n + B % 128 * big i := by
        rw [wi (n := B) (by omega), wi (n := 7 * (i : Int)) (by omega)] at e4; exact e4
      simp only [e5, wr i (by omega), wr (at_ + i) (by omega)]
      by_cases c2 : B > 127
      · simp only [if_pos c2]
        exact impl_ReadVar_l0 s hs at_ ha d (i + 1) _ (by omega) hst
      · simp only [if_neg c2]
        by_cases c3 : (i : Int) > 0
        · simp only [if_pos c3]
          by_cases c4 : B = 0
          · simp only [if_pos c4, if_pos (show (i > 0 ∧ B = 0) ∨ n + B % 128 * big i > 1000000000 from Or.inl ⟨by omega, c4⟩)]; exact Ev.now _
          · simp only [if_neg c4]
            by_cases c5 : n + B % 128 * big i > 1000000000
            · simp only [if_pos c5, if_pos (show (i > 0 ∧ B = 0) ∨ n + B % 128 * big i > 1000000000 from Or.inr c5)]; exact Ev.now _
            · simp only [if_neg c5, if_neg (show ¬ ((i > 0 ∧ B = 0) ∨ n + B % 128 * big i > 1000000000) by omega)]; exact Ev.now _
        · simp only [if_neg c3]
          by_cases c5 : n + B % 128 * big i > 1000000000
          · simp only [if_pos c5, if_pos (show (i > 0 ∧ B = 0) ∨ n + B % 128 * big i > 1000000000 from Or.inr c5)]; exact Ev.now _
          · simp only [if_neg c5, if_neg (show ¬ ((i > 0 ∧ B = 0) ∨ n + B % 128 * big i > 1000000000) by omega)]; exact Ev.now _
    · simp only [impl_ReadVar.j1, show decide (((at_ + i : Nat) : Int) < (s.size : Int)) = false from decide_eq_false (by omega), if_neg c, Bool.false_eq_true, if_false]
      exact Ev.now _
theorem impl_ReadVar_ev (s : ByteArray) (hs : s.size ≤ 140737488351232) (at_ : Int) : Ev (fun k => impl_ReadVar.f k s at_) (rvT s at_) := by
  unfold impl_ReadVar.f rvT
  simp only [impl_in, Option.bind_some]
  by_cases c : inB at_ 0 (s.size : Int) = true
  · have h := inB_true.1 c
    simp only [if_pos c]
    obtain ⟨n, rfl⟩ := Int.eq_ofNat_of_zero_le h.1
    rw [Int.toNat_natCast]
    exact impl_ReadVar_l0 s hs n (by omega) 5 0 0 rfl (by rw [big_zero]; omega)
  · simp only [if_neg c]; exact Ev.now _
theorem impl_ReadShort_ev (s : ByteArray) (hs : s.size ≤ 140737488351232) (at_ : Int) : Ev (fun k => impl_ReadShort.f k s at_) (rsT s at_) := by
  unfold impl_ReadShort.f rsT
  refine Ev.bind (impl_ReadVar_ev s hs at_) ?_
  have h := rvT_range s at_
  generalize rvT s at_ = p at h ⊢
  obtain ⟨n, q, b⟩ := p
  simp only at h ⊢
  by_cases c : b = true
  · simp only [if_pos c]
    by_cases c1 : n > 20000
    · simp only [if_pos c1]; exact Ev.now _
    · simp only [if_neg c1, wi (n := (s.size : Int) - q) (by omega), wi (n := q + n) (by omega)]
      by_cases c2 : n > (s.size : Int) - q
      · simp only [if_pos c2]; exact Ev.now _
      · simp only [if_neg c2, if_pos h.2.2.1, if_pos (show q ≤ q + n by omega), if_pos (show q + n ≤ (s.size : Int) by omega)]; exact Ev.now _
  · simp only [if_neg c]; exact Ev.now _
theorem impl_num_ev (t : ByteArray) (ht : t.size ≤ 140737488351232) (p : Int) (b : Bool) : Ev (fun k => impl_scan_number.f k t p b) ((nS t p b).1, t, (nS t p b).2.1, (nS t p b).2.2) := by
  unfold impl_scan_number.f
  refine Ev.bind (impl_ReadVar_ev t ht p) ?_
  cases b with
  | true => simp only [if_true, nS_bad]; exact Ev.now _
  | false =>
    unfold nS
    simp only [Bool.false_eq_true, if_false]
    by_cases c : (rvT t p).2.2 = true
    · simp only [if_pos c]; exact Ev.now _
    · simp only [if_neg c]; exact Ev.now _
theorem impl_sshort_ev (t : ByteArray) (ht : t.size ≤ 140737488351232) (p : Int) (b : Bool) : Ev (fun k => impl_scan_short.f k t p b) ((sS t p b).1, t, (sS t p b).2.1, (sS t p b).2.2) := by
  unfold impl_scan_short.f
  refine Ev.bind (impl_ReadShort_ev t ht p) ?_
  cases b with
  | true => simp only [if_true, sS_bad]; exact Ev.now _
  | false =>
    unfold sS
    simp only [Bool.false_eq_true, if_false]
    by_cases c : (rsT t p).2.2 = true
    · simp only [if_pos c]; exact Ev.now _
    · simp only [if_neg c]; exact Ev.now _
theorem impl_dot_ev (t : ByteArray) (ht : t.size ≤ 140737488351232) (p : Int) (b : Bool) : Ev (fun k => impl_scan_dot.f k t p b) ((nS t p b).1, (nS t (nS t p b).2.1 (nS t p b).2.2).1, t, (nS t (nS t p b).2.1 (nS t p b).2.2).2.1, (nS t (nS t p b).2.1 (nS t p b).2.2).2.2) := by
  unfold impl_scan_dot.f
  exact Ev.bind (impl_num_ev t ht p b) (Ev.bind (impl_num_ev t ht _ _) (Ev.now _))
theorem impl_know_ev (t : ByteArray) (ht : t.size ≤ 140737488351232) (p : Int) (b : Bool) (A B C : Int × Int × Bool) (hA : A = nS t p b) (hB : B = nS t A.2.1 A.2.2) (hC : C = nS t B.2.1 B.2.2) : Ev (fun k => impl_scan_know.f k t p b) ([A.1, B.1, C.1], t, C.2.1, C.2.2) := by
  unfold impl_scan_know.f
  have w0 : wrap64 (0 + 1) = 1 := by rw [wi (by omega)]; rfl
  have w1' : wrap64 (1 + 1) = 2 := by rw [wi (by omega)]; rfl
  have w2' : wrap64 (2 + 1) = 3 := by rw [wi (by omega)]; rfl
  refine Ev.step (fun k => rfl) ?_
  simp only [impl_scan_know.l0, if_pos (show (0 : Int) < 3 by omega), w0]
  refine Ev.bind (impl_num_ev t ht p b) ?_
  simp only [List.length_nil, if_pos (show 0 < 17592186044416 by omega), List.nil_append, ← hA]
  refine Ev.step (fun k => rfl) ?_
  simp only [impl_scan_know.l0, if_pos (show (1 : Int) < 3 by omega), w1']
  refine Ev.bind (impl_num_ev t ht _ _) ?_
  simp only [List.length_cons, List.length_nil, if_pos (show 0 + 1 < 17592186044416 by omega), List.cons_append, List.nil_append, ← hB]
  refine Ev.step (fun k => rfl) ?_
  simp only [impl_scan_know.l0, if_pos (show (2 : Int) < 3 by omega), w2']
  refine Ev.bind (impl_num_ev t ht _ _) ?_
  simp only [List.length_cons, List.length_nil, if_pos (show 0 + 1 + 1 < 17592186044416 by omega), List.cons_append, List.nil_append, ← hC]
  refine Ev.step (fun k => rfl) ?_
  simp only [impl_scan_know.l0, if_neg (show ¬ (3 : Int) < 3 by omega)]
  exact Ev.now _
theorem impl_ReadAct_ev (t : ByteArray) (ht : t.size ≤ 140737488351232) (a : Int) : Ev (fun k => impl_ReadAct.f k t a) (readA t a) := by
  unfold impl_ReadAct.f
  refine Ev.bind (impl_dot_ev t ht a false) ?_
  refine Ev.bind (impl_num_ev t ht (q2 t a).2.1 (q2 t a).2.2) ?_
  refine Ev.bind (impl_know_ev t ht (q3 t a).2.1 (q3 t a).2.2 (q4 t a) (q5 t a) (q6 t a) rfl rfl rfl) ?_
  refine Ev.bind (impl_num_ev t ht (q6 t a).2.1 (q6 t a).2.2) ?_
  refine Ev.bind (impl_sshort_ev t ht (q7 t a).2.1 (q7 t a).2.2) ?_
  refine Ev.bind (impl_sshort_ev t ht (q8 t a).2.1 (q8 t a).2.2) ?_
  refine Ev.bind (impl_num_ev t ht (q9 t a).2.1 (q9 t a).2.2) ?_
  refine Ev.bind (impl_dot_ev t ht (q10 t a).2.1 (q10 t a).2.2) ?_
  have s8 : (q8 t a).1.size ≤ t.size := sS_size t _ _
  have s9 : (q9 t a).1.size ≤ t.size := sS_size t _ _
  show Ev (fun k => if (q12 t a).2.2 = true then _ else _) _
  unfold readA readB
  by_cases c3 : (q12 t a).2.2 = true
  · simp only [if_pos c3, Bool.false_eq_true, if_false]; exact Ev.now _
  · simp only [if_neg c3]
    refine Ev.bind (impl_ActOk_ev (q1 t a).1 (q2 t a).1 (q3 t a).1 [(q4 t a).1, (q5 t a).1, (q6 t a).1] (q7 t a).1 (q8 t a).1 (q9 t a).1 (q10 t a).1 (q11 t a).1 (q12 t a).1 (by simp) (by omega) (by omega)) ?_
    by_cases c4 : actB (q1 t a).1 (q2 t a).1 (q3 t a).1 [(q4 t a).1, (q5 t a).1, (q6 t a).1] (q7 t a).1 (q8 t a).1 (q9 t a).1 (q10 t a).1 (q11 t a).1 (q12 t a).1 = true
    · simp only [if_pos c4]
      exact Ev.now _
    · simp only [if_neg c4]
      exact Ev.now _
theorem spec_ReadVar_l0 (s : ByteArray) (hs : s.size ≤ 140737488351232) (at_ : Nat) (ha : at_ ≤ s.size) : ∀ (d i : Nat) (n : Int) (pre : List Int), i + d = 5 → 0 ≤ n ∧ n < big i → Canon s at_ i n pre → Ev (fun k => spec_ReadVar.l0 k s (at_ : Int) n (big i) ((at_ + i : Nat) : Int)) (rvF s at_ d i n)
  | 0, i, n, pre, hi, hn, hc => by
    refine Ev.step (fun k => rfl) ?_
    simp only [spec_ReadVar.l0, wi (n := (at_ : Int) + 5) (by omega), show decide (((at_ + i : Nat) : Int) < (at_ : Int) + 5) = false from decide_eq_false (by omega), ite_self]
    refine Ev.step (fun k => rfl) ?_
    simp only [spec_ReadVar.j1, Bool.false_eq_true, if_false]
    exact Ev.now _
  | d + 1, i, n, pre, hi, hn, hc => by
    refine Ev.step (fun k => rfl) ?_
    simp only [spec_ReadVar.l0, wi (n := (at_ : Int) + 5) (by omega), show decide (((at_ + i : Nat) : Int) < (at_ : Int) + 5) = true from decide_eq_true (by omega), rvF]
    by_cases c : at_ + i < s.size
    · simp only [if_pos (show ((at_ + i : Nat) : Int) < (s.size : Int) by omega), if_pos c]
      refine Ev.step (fun k => rfl) ?_
      have hb := bt_range s ((at_ + i : Nat) : Int)
      have hst' := fun h => canon_step hc c h
      have hen := fun h => canon_end hc c h (by omega) hn
      generalize hB : bt s ((at_ + i : Nat) : Int) = B at hb hst' hen ⊢
      have e3 : Int.tmod B 128 = B % 128 := Int.tmod_eq_emod_of_nonneg hb.1
      have hbig := big_le (i + 1) (by omega)
      have hbig0 := big_pos i
      have hst := big_step n (B % 128) i hn (by omega)
      have hmul : 0 ≤ B % 128 * big i := Int.mul_nonneg (by omega) (by omega)
      have e4 : wrap64 (n + wrap64 ((Int.tmod B 128) * big i)) = n + B % 128 * big i := by
        rw [e3, wi (n := B % 128 * big i) (by omega), wi (by omega)]
      simp only [spec_ReadVar.j1, if_true, if_pos (show (0 : Int) ≤ ((at_ + i : Nat) : Int) by omega), if_pos (show ((at_ + i : Nat) : Int) < (s.size : Int) by omega), hB, wi (n := B) (by omega), e4, wr (at_ + i) (by omega)]
      by_cases c2 : B > 127
      · simp only [if_neg (show ¬ B < 128 by omega), if_pos c2]
        have e6 : wrap64 (big i * 128) = big (i + 1) := by rw [big_succ] at hbig ⊢; rw [wi (by omega)]; omega
        rw [e6]
        exact spec_ReadVar_l0 s hs at_ ha d (i + 1) _ _ (by omega) hst (hst' c2)
      · simp only [if_pos (show B < 128 by omega), if_neg c2]
        by_cases c5 : n + B % 128 * big i > 1000000000
        · simp only [if_pos c5, if_pos (show (i > 0 ∧ B = 0) ∨ n + B % 128 * big i > 1000000000 from Or.inr c5)]; exact Ev.now _
        · simp only [if_neg c5]
          refine Ev.bind (spec_l01Var_ev _ (by omega) (by omega)) ?_
          simp only [if_pos (show (0 : Int) ≤ (at_ : Int) by omega), if_pos (show (at_ : Int) ≤ ((at_ + i + 1 : Nat) : Int) by omega), if_pos (show ((at_ + i + 1 : Nat) : Int) ≤ (s.size : Int) by omega), Int.toNat_natCast]
          have he := hen (by omega)
          by_cases c6 : i > 0 ∧ B = 0
          · simp only [if_neg (fun h => (he.1 h) c6), if_pos (show (i > 0 ∧ B = 0) ∨ n + B % 128 * big i > 1000000000 from Or.inl c6)]; exact Ev.now _
          · simp only [if_pos (he.2 c6), if_neg (show ¬ ((i > 0 ∧ B = 0) ∨ n + B % 128 * big i > 1000000000) by omega)]; exact Ev.now _
    · simp only [if_neg (show ¬ ((at_ + i : Nat) : Int) < (s.size : Int) by omega), if_neg c]
      refine Ev.step (fun k => rfl) ?_
      simp only [spec_ReadVar.j1, Bool.false_eq_true, if_false]
      exact Ev.now _
theorem spec_ReadVar_ev (s : ByteArray) (hs : s.size ≤ 140737488351232) (at_ : Int) : Ev (fun k => spec_ReadVar.f k s at_) (rvT s at_) := by
  unfold spec_ReadVar.f rvT
  simp only [spec_in, Option.bind_some]
  by_cases c : inB at_ 0 (s.size : Int) = true
  · have h := inB_true.1 c
    simp only [if_pos c]
    obtain ⟨n, rfl⟩ := Int.eq_ofNat_of_zero_le h.1
    rw [Int.toNat_natCast]
    exact spec_ReadVar_l0 s hs n (by omega) 5 0 0 [] rfl (by rw [big_zero]; omega) (canon_zero s n)
  · simp only [if_neg c]; exact Ev.now _
theorem spec_ReadShort_ev (s : ByteArray) (hs : s.size ≤ 140737488351232) (at_ : Int) : Ev (fun k => spec_ReadShort.f k s at_) (rsT s at_) := by
  unfold spec_ReadShort.f rsT
  refine Ev.bind (spec_ReadVar_ev s hs at_) ?_
  have h := rvT_range s at_
  generalize rvT s at_ = p at h ⊢
  obtain ⟨n, q, b⟩ := p
  simp only at h ⊢
  by_cases c : b = true
  · simp only [if_pos c]
    by_cases c1 : n > 20000
    · simp only [if_pos c1]; exact Ev.now _
    · simp only [if_neg c1, wi (n := (s.size : Int) - q) (by omega), wi (n := q + n) (by omega)]
      by_cases c2 : n > (s.size : Int) - q
      · simp only [if_pos c2]; exact Ev.now _
      · simp only [if_neg c2, if_pos h.2.2.1, if_pos (show q ≤ q + n by omega), if_pos (show q + n ≤ (s.size : Int) by omega)]; exact Ev.now _
  · simp only [if_neg c]; exact Ev.now _
theorem spec_num_ev (t : ByteArray) (ht : t.size ≤ 140737488351232) (p : Int) (b : Bool) : Ev (fun k => spec_l05Read_num.f k t p b) ((nS t p b).1, t, (nS t p b).2.1, (nS t p b).2.2) := by
  unfold spec_l05Read_num.f
  cases b with
  | true => simp only [if_true, nS_bad]; exact Ev.now _
  | false =>
    simp only [Bool.false_eq_true, if_false]
    refine Ev.bind (spec_ReadVar_ev t ht p) ?_
    unfold nS
    simp only [Bool.false_eq_true, if_false]
    by_cases c : (rvT t p).2.2 = true
    · simp only [if_pos c]; exact Ev.now _
    · simp only [if_neg c]; exact Ev.now _
theorem spec_short_ev (t : ByteArray) (ht : t.size ≤ 140737488351232) (p : Int) (b : Bool) : Ev (fun k => spec_l05Read_short.f k t p b) ((sS t p b).1, t, (sS t p b).2.1, (sS t p b).2.2) := by
  unfold spec_l05Read_short.f
  cases b with
  | true => simp only [if_true, sS_bad]; exact Ev.now _
  | false =>
    simp only [Bool.false_eq_true, if_false]
    refine Ev.bind (spec_ReadShort_ev t ht p) ?_
    unfold sS
    simp only [Bool.false_eq_true, if_false]
    by_cases c : (rsT t p).2.2 = true
    · simp only [if_pos c]; exact Ev.now _
    · simp only [if_neg c]; exact Ev.now _
theorem spec_dot_ev (t : ByteArray) (ht : t.size ≤ 140737488351232) (p : Int) (b : Bool) : Ev (fun k => spec_l05Read_dot.f k t p b) ((nS t p b).1, (nS t (nS t p b).2.1 (nS t p b).2.2).1, t, (nS t (nS t p b).2.1 (nS t p b).2.2).2.1, (nS t (nS t p b).2.1 (nS t p b).2.2).2.2) := by
  unfold spec_l05Read_dot.f
  exact Ev.bind (spec_num_ev t ht p b) (Ev.bind (spec_num_ev t ht _ _) (Ev.now _))
theorem spec_know_ev (t : ByteArray) (ht : t.size ≤ 140737488351232) (p : Int) (b : Bool) (A B C : Int × Int × Bool) (hA : A = nS t p b) (hB : B = nS t A.2.1 A.2.2) (hC : C = nS t B.2.1 B.2.2) : Ev (fun k => spec_l05Read_know.f k t p b) ([A.1, B.1, C.1], t, C.2.1, C.2.2) := by
  unfold spec_l05Read_know.f
  have w0 : wrap64 (0 + 1) = 1 := by rw [wi (by omega)]; rfl
  have w1' : wrap64 (1 + 1) = 2 := by rw [wi (by omega)]; rfl
  have w2' : wrap64 (2 + 1) = 3 := by rw [wi (by omega)]; rfl
  refine Ev.step (fun k => rfl) ?_
  simp only [spec_l05Read_know.l0, if_pos (show (0 : Int) < 3 by omega), w0]
  refine Ev.bind (spec_num_ev t ht p b) ?_
  simp only [List.length_nil, if_pos (show 0 < 17592186044416 by omega), List.nil_append, ← hA]
  refine Ev.step (fun k => rfl) ?_
  simp only [spec_l05Read_know.l0, if_pos (show (1 : Int) < 3 by omega), w1']
  refine Ev.bind (spec_num_ev t ht _ _) ?_
  simp only [List.length_cons, List.length_nil, if_pos (show 0 + 1 < 17592186044416 by omega), List.cons_append, List.nil_append, ← hB]
  refine Ev.step (fun k => rfl) ?_
  simp only [spec_l05Read_know.l0, if_pos (show (2 : Int) < 3 by omega), w2']
  refine Ev.bind (spec_num_ev t ht _ _) ?_
  simp only [List.length_cons, List.length_nil, if_pos (show 0 + 1 + 1 < 17592186044416 by omega), List.cons_append, List.nil_append, ← hC]
  refine Ev.step (fun k => rfl) ?_
  simp only [spec_l05Read_know.l0, if_neg (show ¬ (3 : Int) < 3 by omega)]
  exact Ev.now _
theorem spec_act_ev (t : ByteArray) (ht : t.size ≤ 140737488351232) (a : Int) : Ev (fun k => spec_l05Read_act.f k t a false) ((q1 t a).1, (q2 t a).1, (q3 t a).1, [(q4 t a).1, (q5 t a).1, (q6 t a).1], (q7 t a).1, (q8 t a).1, (q9 t a).1, (q10 t a).1, (q11 t a).1, (q12 t a).1, t, (q12 t a).2.1, (q12 t a).2.2) := by
  unfold spec_l05Read_act.f
  refine Ev.bind (spec_dot_ev t ht a false) ?_
  refine Ev.bind (spec_num_ev t ht (q2 t a).2.1 (q2 t a).2.2) ?_
  refine Ev.bind (spec_know_ev t ht (q3 t a).2.1 (q3 t a).2.2 (q4 t a) (q5 t a) (q6 t a) rfl rfl rfl) ?_
  refine Ev.bind (spec_num_ev t ht (q6 t a).2.1 (q6 t a).2.2) ?_
  refine Ev.bind (spec_short_ev t ht (q7 t a).2.1 (q7 t a).2.2) ?_
  refine Ev.bind (spec_short_ev t ht (q8 t a).2.1 (q8 t a).2.2) ?_
  refine Ev.bind (spec_num_ev t ht (q9 t a).2.1 (q9 t a).2.2) ?_
  refine Ev.bind (spec_dot_ev t ht (q10 t a).2.1 (q10 t a).2.2) ?_
  exact Ev.now _
theorem q_bad {t : ByteArray} {a : Int} (h : ¬ (0 ≤ a ∧ a ≤ (t.size : Int))) : readB t a = false := by
  unfold readB
  by_cases c : (q12 t a).2.2 = true
  · rw [if_pos c]
  · obtain ⟨h1, h2, h3, _⟩ := read_text (Bool.eq_false_iff.2 c)
    exact absurd ⟨h1, by omega⟩ h
theorem spec_ReadAct_ev (t : ByteArray) (ht : t.size ≤ 140737488351232) (a : Int) : Ev (fun k => spec_ReadAct.f k t a) (readA t a) := by
  have out : ¬ (0 ≤ a ∧ a ≤ (t.size : Int)) → Ev (fun k => spec_ReadAct.j0 k t a true) (readA t a) := by
    intro h
    refine Ev.step (fun k => rfl) ?_
    simp only [spec_ReadAct.j0, if_true, readA, q_bad h, Bool.false_eq_true, if_false]
    exact Ev.now _
  unfold spec_ReadAct.f
  by_cases c : a < 0
  · simp only [if_pos c]; exact out (by omega)
  simp only [if_neg c]
  by_cases c2 : a > (t.size : Int)
  · simp only [decide_eq_true c2]; exact out (by omega)
  simp only [decide_eq_false c2]
  refine Ev.step (fun k => rfl) ?_
  simp only [spec_ReadAct.j0, Bool.false_eq_true, if_false]
  refine Ev.bind (spec_act_ev t ht a) ?_
  have s8 : (q8 t a).1.size ≤ t.size := sS_size t _ _
  have s9 : (q9 t a).1.size ≤ t.size := sS_size t _ _
  refine Ev.bind (spec_ActText_ev (q1 t a).1 (q2 t a).1 (q3 t a).1 [(q4 t a).1, (q5 t a).1, (q6 t a).1] (q7 t a).1 (q8 t a).1 (q9 t a).1 (q10 t a).1 (q11 t a).1 (q12 t a).1 (by simp) (by omega) (by omega)) ?_
  unfold readA readB
  by_cases c3 : (q12 t a).2.2 = true
  · simp only [if_pos c3, Bool.false_eq_true, if_false]; exact Ev.now _
  · obtain ⟨h1, h2, h3, h4⟩ := read_text (Bool.eq_false_iff.2 c3)
    simp only [if_neg c3]
    by_cases c4 : actB (q1 t a).1 (q2 t a).1 (q3 t a).1 [(q4 t a).1, (q5 t a).1, (q6 t a).1] (q7 t a).1 (q8 t a).1 (q9 t a).1 (q10 t a).1 (q11 t a).1 (q12 t a).1 = true
    · simp only [if_pos c4, if_true, if_pos h1, if_pos h2, if_pos h3, h4]
      exact Ev.now _
    · simp only [if_neg c4, Bool.false_eq_true, if_false]
      exact Ev.now _
def sameActB (a b c : Int) (l : List Int) (d : Int) (s t : ByteArray) (e f g : Int) (a' b' c' : Int) (l' : List Int) (d' : Int) (s' t' : ByteArray) (e' f' g' : Int) : Bool :=
  if (a == a' && (b == b')) = true then (if c = c' then (if l = l' then (if d = d' then (if s.toList = s'.toList then (if t.toList = t'.toList then (if e = e' then (f == f' && (g == g')) else false) else false) else false) else false) else false) else false) else false
theorem rd_ne (l l' : List Int) (i : Nat) (h : i < l.length) (h' : i < l'.length) (hne : rd l (i : Int) ≠ rd l' (i : Int)) : l.drop i ≠ l'.drop i := by
  intro he
  rw [drop_rd l i h, drop_rd l' i h'] at he
  injection he with h1 _
  exact hne h1
theorem rd_eq (l l' : List Int) (i : Nat) (h : i < l.length) (h' : i < l'.length) (he : rd l (i : Int) = rd l' (i : Int)) : (l.drop i = l'.drop i) ↔ (l.drop (i + 1) = l'.drop (i + 1)) := by
  rw [drop_rd l i h, drop_rd l' i h', he]
  simp
theorem l05Same_l0 (l l' : List Int) (hl : l.length ≤ 140737488351232) (he : l.length = l'.length) : ∀ d i, i + d = l.length → Ev (fun k => spec_l05Same.l0 k l l' (i : Int)) (decide (l.drop i = l'.drop i))
  | 0, i, hi => by
    refine Ev.step (fun k => rfl) ?_
    simp only [spec_l05Same.l0, if_neg (show ¬ (i : Int) < (l.length : Int) by omega), List.drop_eq_nil_of_le (show l.length ≤ i by omega), List.drop_eq_nil_of_le (show l'.length ≤ i by omega), decide_true]
    exact Ev.now _
  | d + 1, i, hi => by
    refine Ev.step (fun k => rfl) ?_
    simp only [spec_l05Same.l0, if_pos (show (i : Int) < (l.length : Int) by omega), if_pos (show (i : Int) < (l'.length : Int) by omega), if_pos (show (0 : Int) ≤ (i : Int) by omega), wr i (by omega)]
    by_cases c : rd l (i : Int) = rd l' (i : Int)
    · simp only [if_pos c, rd_eq l l' i (by omega) (by omega) c]
      exact l05Same_l0 l l' hl he d (i + 1) (by omega)
    · simp only [if_neg c, decide_eq_false (rd_ne l l' i (by omega) (by omega) c)]
      exact Ev.now _
theorem l05Same_ev (l l' : List Int) (hl : l.length ≤ 140737488351232) : Ev (fun k => spec_l05Same.f k l l') (decide (l = l')) := by
  unfold spec_l05Same.f
  by_cases c : (l.length : Int) = (l'.length : Int)
  · simp only [if_pos c]
    exact l05Same_l0 l l' hl (by omega) l.length 0 (by omega)
  · simp only [if_neg c]
    have : l ≠ l' := fun h => c (by rw [h])
    rw [decide_eq_false this]; exact Ev.now _
theorem spec_SameAct_ev (a b c : Int) (l : List Int) (d : Int) (s t : ByteArray) (e f g : Int) (a' b' c' : Int) (l' : List Int) (d' : Int) (s' t' : ByteArray) (e' f' g' : Int) (hl : l.length ≤ 140737488351232) :
    Ev (fun k => spec_SameAct.f k a b c l d s t e f g a' b' c' l' d' s' t' e' f' g') (sameActB a b c l d s t e f g a' b' c' l' d' s' t' e' f' g') := by
  unfold spec_SameAct.f sameActB
  by_cases h1 : (a == a' && (b == b')) = true
  · by_cases h2 : c = c'
    · simp only [if_pos h1, if_pos h2]
      refine Ev.bind (l05Same_ev l l' hl) ?_
      by_cases h3 : l = l'
      · simp only [decide_eq_true h3, if_pos h3, if_true]
        by_cases h4 : d = d'
        · by_cases h5 : s.toList = s'.toList
          · by_cases h6 : t.toList = t'.toList
            · by_cases h7 : e = e'
              · simp only [if_pos h4, if_pos h5, if_pos h6, if_pos h7]; exact Ev.now _
              · simp only [if_pos h4, if_pos h5, if_pos h6, if_neg h7]; exact Ev.now _
            · simp only [if_pos h4, if_pos h5, if_neg h6]; exact Ev.now _
          · simp only [if_pos h4, if_neg h5]; exact Ev.now _
        · simp only [if_neg h4]; exact Ev.now _
      · simp only [decide_eq_false h3, if_neg h3, Bool.false_eq_true, if_false]; exact Ev.now _
    · simp only [if_pos h1, if_neg h2]; exact Ev.now _
  · simp only [if_neg h1]; exact Ev.now _
theorem slicesEqual_l0 (l l' : List Int) (hl : l.length ≤ 140737488351232) (he : l.length = l'.length) : ∀ d i, i + d = l.length → Ev (fun k => slices_Equal_int_int.l0 k l l' (l.length : Int) (i : Int)) (decide (l.drop i = l'.drop i))
  | 0, i, hi => by
    refine Ev.step (fun k => rfl) ?_
    simp only [slices_Equal_int_int.l0, if_neg (show ¬ (i : Int) < (l.length : Int) by omega), List.drop_eq_nil_of_le (show l.length ≤ i by omega), List.drop_eq_nil_of_le (show l'.length ≤ i by omega), decide_true]
    exact Ev.now _
  | d + 1, i, hi => by
    refine Ev.step (fun k => rfl) ?_
    simp only [slices_Equal_int_int.l0, if_pos (show (i : Int) < (l.length : Int) by omega), if_pos (show (i : Int) < (l'.length : Int) by omega), if_pos (show (0 : Int) ≤ (i : Int) by omega), wr i (by omega)]
    by_cases c : rd l (i : Int) = rd l' (i : Int)
    · simp only [if_pos c, rd_eq l l' i (by omega) (by omega) c]
      exact slicesEqual_l0 l l' hl he d (i + 1) (by omega)
    · simp only [if_neg c, decide_eq_false (rd_ne l l' i (by omega) (by omega) c)]
      exact Ev.now _
theorem slicesEqual_ev (l l' : List Int) (hl : l.length ≤ 140737488351232) : Ev (fun k => slices_Equal_int_int.f k l l') (decide (l = l')) := by
  unfold slices_Equal_int_int.f
  by_cases c : (l.length : Int) = (l'.length : Int)
  · simp only [if_pos c]
    exact slicesEqual_l0 l l' hl (by omega) l.length 0 (by omega)
  · simp only [if_neg c]
    have : l ≠ l' := fun h => c (by rw [h])
    rw [decide_eq_false this]; exact Ev.now _
theorem impl_SameAct_ev (a b c : Int) (l : List Int) (d : Int) (s t : ByteArray) (e f g : Int) (a' b' c' : Int) (l' : List Int) (d' : Int) (s' t' : ByteArray) (e' f' g' : Int) (hl : l.length ≤ 140737488351232) :
    Ev (fun k => impl_SameAct.f k a b c l d s t e f g a' b' c' l' d' s' t' e' f' g') (sameActB a b c l d s t e f g a' b' c' l' d' s' t' e' f' g') := by
  unfold impl_SameAct.f sameActB
  by_cases h1 : (a == a' && (b == b')) = true
  · by_cases h2 : c = c'
    · simp only [if_pos h1, if_pos h2]
      refine Ev.bind (slicesEqual_ev l l' hl) ?_
      by_cases h3 : l = l'
      · simp only [decide_eq_true h3, if_pos h3, if_true]
        by_cases h4 : d = d'
        · by_cases h5 : s.toList = s'.toList
          · by_cases h6 : t.toList = t'.toList
            · by_cases h7 : e = e'
              · simp only [if_pos h4, if_pos h5, if_pos h6, if_pos h7]; exact Ev.now _
              · simp only [if_pos h4, if_pos h5, if_pos h6, if_neg h7]; exact Ev.now _
            · simp only [if_pos h4, if_pos h5, if_neg h6]; exact Ev.now _
          · simp only [if_pos h4, if_neg h5]; exact Ev.now _
        · simp only [if_neg h4]; exact Ev.now _
      · simp only [decide_eq_false h3, if_neg h3, Bool.false_eq_true, if_false]; exact Ev.now _
    · simp only [if_pos h1, if_neg h2]; exact Ev.now _
  · simp only [if_neg h1]; exact Ev.now _
def laterB (r t r' t' : Int) : Bool := if t > t' then true else if t = t' then decide (r > r') else false
theorem impl_Later_eq (a b c : Int) (l : List Int) (d : Int) (s t : ByteArray) (e f g : Int) (a' b' c' : Int) (l' : List Int) (d' : Int) (s' t' : ByteArray) (e' f' g' : Int) : impl_Later.f a b c l d s t e f g a' b' c' l' d' s' t' e' f' g' = some (laterB a c a' c') := by
  unfold impl_Later.f laterB
  split
  · rfl
  · split <;> rfl
theorem spec_Later_eq (a b c : Int) (l : List Int) (d : Int) (s t : ByteArray) (e f g : Int) (a' b' c' : Int) (l' : List Int) (d' : Int) (s' t' : ByteArray) (e' f' g' : Int) : spec_Later.f a b c l d s t e f g a' b' c' l' d' s' t' e' f' g' = some (laterB a c a' c') := by
  unfold spec_Later.f laterB
  split
  · rfl
  · split <;> rfl
theorem nS_step {t X Y : ByteArray} {v p : Int} (ht : t = X ++ (varT v ++ Y)) (hp : p = (X.size : Int)) (hv : small v) : nS t p false = (v, ((X ++ varT v).size : Int), false) ∧ t = (X ++ varT v) ++ Y := by
  have e := rv_back X Y v hv
  rw [ByteArray.append_assoc, ← ht, ← hp] at e
  refine ⟨?_, by rw [ht, ByteArray.append_assoc]⟩
  unfold nS
  rw [if_neg (by simp), e, if_pos rfl, ByteArray.size_append]
theorem sS_step {t X Y s : ByteArray} {p : Int} (ht : t = X ++ (shT s ++ Y)) (hp : p = (X.size : Int)) (hs : s.size ≤ 1000) : sS t p false = (s, ((X ++ shT s).size : Int), false) ∧ t = (X ++ shT s) ++ Y := by
  have hsm : small (s.size : Int) := ⟨by omega, by omega⟩
  have ht1 : t = X ++ (varT (s.size : Int) ++ (s ++ Y)) := by rw [ht]; unfold shT; rw [ByteArray.append_assoc]
  have e := rv_back X (s ++ Y) (s.size : Int) hsm
  rw [ByteArray.append_assoc, ← ht1, ← hp] at e
  have hz : t.size = X.size + ((varT (s.size : Int)).size + (s.size + Y.size)) := by rw [ht1, ByteArray.size_append, ByteArray.size_append, ByteArray.size_append]
  refine ⟨?_, by rw [ht, ByteArray.append_assoc]⟩
  have er : rsT t p = (s, ((X ++ shT s).size : Int), true) := by
    unfold rsT
    rw [e]
    simp only [if_true]
    rw [if_neg (by omega), if_neg (by omega)]
    have h1 : (((X.size + (varT (s.size : Int)).size : Nat) : Int)).toNat = X.size + (varT (s.size : Int)).size := by omega
    have h2 : (((X.size + (varT (s.size : Int)).size : Nat) : Int) + (s.size : Int)).toNat = X.size + (varT (s.size : Int)).size + s.size := by omega
    rw [h1, h2]
    refine Prod.ext ?_ (Prod.ext ?_ rfl)
    · apply ext_eq
      show (t.extract _ _).toList = s.toList
      have hX : X.toList.length + (varT (s.size : Int)).toList.length = X.size + (varT (s.size : Int)).size := by rw [len_toL, len_toL]
      rw [ext_toL, ht1, app_toL, app_toL, app_toL, ← List.append_assoc, List.drop_append_of_le_length (by rw [List.length_append]; omega), List.drop_eq_nil_of_le (by rw [List.length_append]; omega), List.nil_append, show X.size + (varT (s.size : Int)).size + s.size - (X.size + (varT (s.size : Int)).size) = s.toList.length by rw [len_toL]; omega, List.take_left]
    · show ((X.size + (varT (s.size : Int)).size : Nat) : Int) + (s.size : Int) = ((X ++ shT s).size : Int)
      unfold shT
      rw [ByteArray.size_append, ByteArray.size_append]; omega
  unfold sS
  rw [if_neg (by simp), er, if_pos rfl]
theorem read_back (X Y : ByteArray) (a b c : Int) (l : List Int) (d : Int) (s t : ByteArray) (e f g : Int) (h : actB a b c l d s t e f g = true) :
    readA (X ++ (actT a b c l d s t e f g ++ Y)) (X.size : Int) = (a, b, c, l, d, s, t, e, f, g, ((X ++ actT a b c l d s t e f g).size : Int), true) := by
  have o := act_ok h
  obtain ⟨x, y, z, rfl⟩ : ∃ x y z, l = [x, y, z] := by
    match l, o.len with
    | [x, y, z], _ => exact ⟨x, y, z, rfl⟩
  have kx := o.knew x (by simp)
  have ky := o.knew y (by simp)
  have kz := o.knew z (by simp)
  have e0 : (⟨#[]⟩ : ByteArray) ++ varT x = varT x := ByteArray.empty_append
  have eT : X ++ (actT a b c [x, y, z] d s t e f g ++ Y) = X ++ (varT a ++ (varT b ++ (varT c ++ (varT x ++ (varT y ++ (varT z ++ (varT d ++ (shT s ++ (shT t ++ (varT e ++ (varT f ++ (varT g ++ Y)))))))))))) := by
    unfold actT
    simp only [varTs, e0, ByteArray.append_assoc]
  have eP : ((((((((((((X ++ varT a) ++ varT b) ++ varT c) ++ varT x) ++ varT y) ++ varT z) ++ varT d) ++ shT s) ++ shT t) ++ varT e) ++ varT f) ++ varT g) = X ++ actT a b c [x, y, z] d s t e f g := by
    unfold actT
    simp only [varTs, e0, ByteArray.append_assoc]
  generalize hT : X ++ (actT a b c [x, y, z] d s t e f g ++ Y) = T at eT
  obtain ⟨r1, t1⟩ := nS_step eT rfl o.rep
  obtain ⟨r2, t2⟩ := nS_step t1 rfl o.seq
  obtain ⟨r3, t3⟩ := nS_step t2 rfl o.time
  obtain ⟨r4, t4⟩ := nS_step t3 rfl kx
  obtain ⟨r5, t5⟩ := nS_step t4 rfl ky
  obtain ⟨r6, t6⟩ := nS_step t5 rfl kz
  obtain ⟨r7, t7⟩ := nS_step t6 rfl o.kind
  obtain ⟨r8, t8⟩ := sS_step t7 rfl (by have := o.obj; omega)
  obtain ⟨r9, t9⟩ := sS_step t8 rfl (by have := o.key; omega)
  obtain ⟨r10, t10⟩ := nS_step t9 rfl o.val
  obtain ⟨r11, t11⟩ := nS_step t10 rfl o.r
  obtain ⟨r12, _⟩ := nS_step t11 rfl o.s
  have g1 : q1 T (X.size : Int) = (a, ((X ++ varT a).size : Int), false) := r1
  have g2 : q2 T (X.size : Int) = (b, (((X ++ varT a) ++ varT b).size : Int), false) := by unfold q2; rw [g1]; exact r2
  have g3 : q3 T (X.size : Int) = (c, ((((X ++ varT a) ++ varT b) ++ varT c).size : Int), false) := by unfold q3; rw [g2]; exact r3
  have g4 : q4 T (X.size : Int) = (x, (((((X ++ varT a) ++ varT b) ++ varT c) ++ varT x).size : Int), false) := by unfold q4; rw [g3]; exact r4
  have g5 : q5 T (X.size : Int) = (y, ((((((X ++ varT a) ++ varT b) ++ varT c) ++ varT x) ++ varT y).size : Int), false) := by unfold q5; rw [g4]; exact r5
  have g6 : q6 T (X.size : Int) = (z, (((((((X ++ varT a) ++ varT b) ++ varT c) ++ varT x) ++ varT y) ++ varT z).size : Int), false) := by unfold q6; rw [g5]; exact r6
  have g7 : q7 T (X.size : Int) = (d, ((((((((X ++ varT a) ++ varT b) ++ varT c) ++ varT x) ++ varT y) ++ varT z) ++ varT d).size : Int), false) := by unfold q7; rw [g6]; exact r7
  have g8 : q8 T (X.size : Int) = (s, (((((((((X ++ varT a) ++ varT b) ++ varT c) ++ varT x) ++ varT y) ++ varT z) ++ varT d) ++ shT s).size : Int), false) := by unfold q8; rw [g7]; exact r8
  have g9 : q9 T (X.size : Int) = (t, ((((((((((X ++ varT a) ++ varT b) ++ varT c) ++ varT x) ++ varT y) ++ varT z) ++ varT d) ++ shT s) ++ shT t).size : Int), false) := by unfold q9; rw [g8]; exact r9
  have g10 : q10 T (X.size : Int) = (e, (((((((((((X ++ varT a) ++ varT b) ++ varT c) ++ varT x) ++ varT y) ++ varT z) ++ varT d) ++ shT s) ++ shT t) ++ varT e).size : Int), false) := by unfold q10; rw [g9]; exact r10
  have g11 : q11 T (X.size : Int) = (f, ((((((((((((X ++ varT a) ++ varT b) ++ varT c) ++ varT x) ++ varT y) ++ varT z) ++ varT d) ++ shT s) ++ shT t) ++ varT e) ++ varT f).size : Int), false) := by unfold q11; rw [g10]; exact r11
  have g12 : q12 T (X.size : Int) = (g, (((((((((((((X ++ varT a) ++ varT b) ++ varT c) ++ varT x) ++ varT y) ++ varT z) ++ varT d) ++ shT s) ++ shT t) ++ varT e) ++ varT f) ++ varT g).size : Int), false) := by unfold q12; rw [g11]; exact r12
  have hB : readB T (X.size : Int) = true := by
    unfold readB
    rw [g1, g2, g3, g4, g5, g6, g7, g8, g9, g10, g11, g12]
    simp only [Bool.false_eq_true, if_false]
    exact h
  unfold readA
  rw [if_pos hB, g1, g2, g3, g4, g5, g6, g7, g8, g9, g10, g11, g12, eP]
theorem same_self (a b c : Int) (l : List Int) (d : Int) (s t : ByteArray) (e f g : Int) : sameActB a b c l d s t e f g a b c l d s t e f g = true := by
  unfold sameActB
  simp
theorem later_not (a c a' c' : Int) (h : laterB a c a' c' = true) : laterB a' c' a c = false := by
  unfold laterB at *
  by_cases h1 : c > c'
  · rw [if_neg (by omega), if_neg (by omega)]
  · rw [if_neg h1] at h
    by_cases h2 : c = c'
    · rw [if_pos h2] at h
      have := of_decide_eq_true h
      rw [if_neg (by omega), if_pos h2.symm]
      exact decide_eq_false (by omega)
    · rw [if_neg h2] at h; cases h
theorem FnActs : laws_FnActs.Pure := by
  intro l hb
  refine Ev.rounds ?_
  unfold laws_FnActs.f laws_big.f
  simp only [Option.bind_some, decide_eq_true_eq]
  by_cases c : (l.length : Int) > 1048576
  · simp only [if_pos c]; exact Ev.now _
  simp only [if_neg c]
  have hl : l.length ≤ 1048576 := by omega
  obtain ⟨a, b, c0, kn, d, s, t, e, f, g, h1, hk, hs, ht⟩ := drawAct_ex l hl
  obtain ⟨u, p, h2, hu⟩ := drawRead_ex l hl
  obtain ⟨a1, b1, c1, kn1, d1, s1, t1, e1, f1, g1, a2, b2, c2, kn2, d2, s2, t2, e2, f2, g2, h3, hk1⟩ := drawSame_ex l hl
  obtain ⟨a3, b3, c3, kn3, d3, s3, t3, e3, f3, g3, a4, b4, c4, kn4, d4, s4, t4, e4, f4, g4, h4⟩ := drawLater_ex l hl
  obtain ⟨nm_, h5, hn⟩ := drawName_ex l hl
  have hkn : kn.length ≤ 140737488351232 := by omega
  have hss : s.size ≤ 140737488351232 := by omega
  have htt : t.size ≤ 140737488351232 := by omega
  have x0 := impl_ActText_ev a b c0 kn d s t e f g hkn hss htt
  have x1 := spec_ActOk_ev a b c0 kn d s t e f g hkn hss htt
  have x2 := impl_ActOk_ev a b c0 kn d s t e f g hkn hss htt
  have i2 := impl_ReadAct_ev u (by omega) p
  have s2_ := spec_ReadAct_ev u (by omega) p
  have hrl := readA_len u p
  have hz := actT_size a b c0 kn d s t e f g (by omega) (by omega) (by omega)
  generalize readA u p = R at i2 s2_ hrl
  obtain ⟨y1, y2, y3, y4, y5, y6, y7, y8, y9, y10, y11, y12⟩ := R
  simp only at hrl
  have same2 := spec_SameAct_ev y1 y2 y3 y4 y5 y6 y7 y8 y9 y10 y1 y2 y3 y4 y5 y6 y7 y8 y9 y10 (by omega)
  rw [same_self] at same2
  have im3 := impl_SameAct_ev a1 b1 c1 kn1 d1 s1 t1 e1 f1 g1 a2 b2 c2 kn2 d2 s2 t2 e2 f2 g2 (by omega)
  have sp3 := spec_SameAct_ev a1 b1 c1 kn1 d1 s1 t1 e1 f1 g1 a2 b2 c2 kn2 d2 s2 t2 e2 f2 g2 (by omega)
  have n1 := impl_NameOk_ev nm_ (by omega)
  have n2 := spec_NameOk_ev nm_ (by omega)
  have z1 (T : ByteArray) : ((⟨#[112, 113]⟩ : ByteArray) ++ T).size = 2 + T.size := ByteArray.size_append
  have z2 (T : ByteArray) : (((⟨#[112, 113]⟩ : ByteArray) ++ T) ++ (⟨#[114]⟩ : ByteArray)).size = 2 + T.size + 1 := by rw [ByteArray.size_append, z1]; rfl
  have tail : Ev (fun k => if (y12 == y12) = true then (if y11 = y11 then ((spec_SameAct.f k y1 y2 y3 y4 y5 y6 y7 y8 y9 y10 y1 y2 y3 y4 y5 y6 y7 y8 y9 y10).bind fun t838 => (if t838 = true then ((impl_SameAct.f k a1 b1 c1 kn1 d1 s1 t1 e1 f1 g1 a2 b2 c2 kn2 d2 s2 t2 e2 f2 g2).bind fun t839 => ((spec_SameAct.f k a1 b1 c1 kn1 d1 s1 t1 e1 f1 g1 a2 b2 c2 kn2 d2 s2 t2 e2 f2 g2).bind fun t840 => (if (t839 == t840) = true then ((impl_Later.f a3 b3 c3 kn3 d3 s3 t3 e3 f3 g3 a4 b4 c4 kn4 d4 s4 t4 e4 f4 g4).bind fun t841 => ((spec_Later.f a3 b3 c3 kn3 d3 s3 t3 e3 f3 g3 a4 b4 c4 kn4 d4 s4 t4 e4 f4 g4).bind fun t842 => (if (t841 == t842) = true then ((impl_Later.f a3 b3 c3 kn3 d3 s3 t3 e3 f3 g3 a4 b4 c4 kn4 d4 s4 t4 e4 f4 g4).bind fun t843 => (if t843 = true then ((impl_Later.f a4 b4 c4 kn4 d4 s4 t4 e4 f4 g4 a3 b3 c3 kn3 d3 s3 t3 e3 f3 g3).bind fun t844 => (if t844 = true then (some false) else ((impl_NameOk.f k nm_).bind fun t845 => ((spec_NameOk.f k nm_).bind fun t846 => (some (t845 == t846)))))) else ((impl_NameOk.f k nm_).bind fun t847 => ((spec_NameOk.f k nm_).bind fun t848 => (some (t847 == t848)))))) else (some false)))) else (some false)))) else (some false))) else (some false)) else (some false)) true := by
    simp only [beq_self_eq_true, if_true]
    refine Ev.bind same2 ?_
    simp only [if_true]
    refine Ev.bind im3 (Ev.bind sp3 ?_)
    simp only [beq_self_eq_true, if_true, impl_Later_eq, spec_Later_eq, Option.bind_some]
    by_cases q : laterB a3 c3 a4 c4 = true
    · simp only [if_pos q, later_not _ _ _ _ q, Bool.false_eq_true, if_false]
      refine Ev.bind n1 (Ev.bind n2 ?_)
      simp only [beq_self_eq_true]
      exact Ev.now _
    · simp only [if_neg q]
      refine Ev.bind n1 (Ev.bind n2 ?_)
      simp only [beq_self_eq_true]
      exact Ev.now _
  refine Ev.bind h1 (Ev.bind x0 ?_)
  by_cases ok : actB a b c0 kn d s t e f g = true
  · have rb := read_back (⟨#[112, 113]⟩ : ByteArray) (⟨#[114]⟩ : ByteArray) a b c0 kn d s t e f g ok
    rw [← ByteArray.append_assoc, show ((⟨#[112, 113]⟩ : ByteArray).size : Int) = 2 from rfl] at rb
    have ir := impl_ReadAct_ev (((⟨#[112, 113]⟩ : ByteArray) ++ actT a b c0 kn d s t e f g) ++ (⟨#[114]⟩ : ByteArray)) (by rw [z2]; omega) 2
    rw [rb] at ir
    have same1 := spec_SameAct_ev a b c0 kn d s t e f g a b c0 kn d s t e f g hkn
    rw [same_self] at same1
    rw [ok] at x1 x2
    simp only [if_pos ok, z1, if_pos (show 2 + (actT a b c0 kn d s t e f g).size ≤ 9223372036854775807 by omega), if_pos (show 2 + (actT a b c0 kn d s t e f g).size + 1 ≤ 9223372036854775807 by omega)]
    refine Ev.bind ir (Ev.bind h2 (Ev.bind i2 (Ev.bind s2_ (Ev.bind h3 (Ev.bind h4 (Ev.bind h5 (Ev.bind x1 ?_)))))))
    simp only [beq_self_eq_true, if_true]
    refine Ev.bind x2 ?_
    simp only [beq_self_eq_true, if_true]
    refine Ev.bind same1 ?_
    simp only [if_true, wi (n := 2 + ((actT a b c0 kn d s t e f g).size : Int)) (by omega), z1, if_pos (show ((2 + (actT a b c0 kn d s t e f g).size : Nat) : Int) = 2 + ((actT a b c0 kn d s t e f g).size : Int) by omega)]
    simp only [beq_self_eq_true, if_true] at tail
    exact tail
  · have okf : actB a b c0 kn d s t e f g = false := by simpa using ok
    rw [okf] at x1 x2
    have ir := impl_ReadAct_ev (((⟨#[112, 113]⟩ : ByteArray) ++ (⟨#[]⟩ : ByteArray)) ++ (⟨#[114]⟩ : ByteArray)) (by decide) 2
    have z0 : (⟨#[]⟩ : ByteArray).size = 0 := rfl
    simp only [if_neg ok, z1, z0, if_pos (show 2 + 0 ≤ 9223372036854775807 by omega), if_pos (show 2 + 0 + 1 ≤ 9223372036854775807 by omega)]
    refine Ev.bind ir (Ev.bind h2 (Ev.bind i2 (Ev.bind s2_ (Ev.bind h3 (Ev.bind h4 (Ev.bind h5 (Ev.bind x1 ?_)))))))
    simp only [beq_self_eq_true, if_true]
    refine Ev.bind x2 ?_
    simp only [beq_self_eq_true, if_true, Bool.false_eq_true, if_false]
    simp only [beq_self_eq_true, if_true] at tail
    exact tail
end Go.Proofs.Ythajpckfodhhpaa.Pure
