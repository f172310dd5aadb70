/- Of every list of bytes that is drawn from, the law on knowledge answers true.
No condition beyond those of the given row. -/
import Derived.Test.YtmohbiagcbfkpaaVFnKnowsQDrawx0
import Derived.Test.YtmohbiagcbfkpaaVFnKnowsQDrawx1
import Derived.Test.YtmohbiagcbfkpaaVFnKnowsQDrawx3
import Derived.Test.YtmohbiagcbfkpaaVFnKnowsQDrawx4
import Derived.Test.YtmohbiagcbfkpaaVFnKnowsQDrawx6
import Derived.Test.YtmohbiagcbfkpaaVFnKnowsQDrawx7
import Derived.Test.YtmohbiagcbfkpaaVFnKnowsQDrawx8
import Derived.Test.YtmohbiagcbfkpaaVFnKnowsQDrawx9
import Derived.Test.YtmohbiagcbfkpaaVFnKnowsQDrawx10
import Derived.Test.YtmohbiagcbfkpaaVFnKnowsQDrawx11
import Derived.Test.YtmohbiagcbfkpaaVFnKnowsQDrawx12
import Derived.Test.YtmohbiagcbfkpaaVFnKnowsSt
import Derived.Test.YtmohbiagcbfkpaaVFnKnowsPlain
namespace Go.Proofs.Ytmohbiagcbfkpaa.Pure
open Go.RowKit Go.Proofs.Ytmohbiagcbfkpaa.QDraw Go.Proofs.Ytmohbiagcbfkpaa.Plain Go.Proofs.YtmohbiagcbfkpaaW.PrintWords Go.Proofs.YtmohbiagcbfkpaaW.PrintLast Go.Proofs.YtmohbiagcbfkpaaW.PrintMore
set_option linter.unusedSimpArgs false
set_option linter.unusedVariables false
def At (l : List Int) (p : Int) : Prop := 0 ≤ p ∧ p ≤ (l.length : Int)
theorem mask255 (n : Int) : Go.bits .and .i64 n 255 = n % 256 := by
  have h : (BitVec.ofInt 64 255).toNat = 2 ^ 8 - 1 := by decide
  have key : (BitVec.ofInt 64 n &&& BitVec.ofInt 64 255).toNat = (n % ((2 ^ 64 : Nat) : Int)).toNat % 2 ^ 8 := by
    rw [BitVec.toNat_and, BitVec.toNat_ofInt, h, Nat.and_two_pow_sub_one_eq_mod]
  show IntKind.i64.wrap ((BitVec.ofInt 64 n &&& BitVec.ofInt 64 255).toNat : Nat) = n % 256
  rw [key, IntKind.wrap_i64]
  omega
theorem new_l0 (l : List Int) (hl : l.length ≤ 1048576) : ∀ (d i : Nat) (x : Int), i + d = l.length → ∃ y, Ev (fun k => spec_l01New.l0 k l x (i : Int)) (l, 0, y)
  | 0, i, x, hi => ⟨x, by
    refine Ev.step (fun k => rfl) ?_
    simp only [spec_l01New.l0, if_neg (show ¬ (i : Int) < (l.length : Int) by omega)]
    exact Ev.now _⟩
  | d + 1, i, x, hi => by
    by_cases c : (i : Int) < 4000
    · obtain ⟨y, hy⟩ := new_l0 l hl d (i + 1) (Go.bits .and .i64 (wrap64 ((wrap64 ((wrap64 (x * 131)) + (wrap64 (rd l (i : Int))))) + 7)) 1073741823) (by omega)
      refine ⟨y, Ev.step (fun k => rfl) ?_⟩
      simp only [spec_l01New.l0, if_pos (show (i : Int) < (l.length : Int) by omega), if_pos c, if_pos (show (0 : Int) ≤ (i : Int) by omega), wr i (by omega)]
      exact hy
    · refine ⟨x, Ev.step (fun k => rfl) ?_⟩
      simp only [spec_l01New.l0, if_pos (show (i : Int) < (l.length : Int) by omega), if_neg c]
      exact Ev.now _
theorem new_ex (l : List Int) (hl : l.length ≤ 1048576) : ∃ y, Ev (fun k => spec_l01New.f k l) (l, 0, y) := new_l0 l hl l.length 0 _ (by omega)
theorem byte_ex (l : List Int) (hl : l.length ≤ 1048576) (p x : Int) (hp : At l p) : ∃ b q y, spec_l01Byte.f l p x = some (b, q, y) ∧ 0 ≤ b ∧ b ≤ 255 ∧ At l q := by
  unfold spec_l01Byte.f
  unfold At at hp ⊢
  by_cases c : p < (l.length : Int)
  · simp only [if_pos c, if_pos hp.1, mask255, wi (n := p + 1) (by omega)]
    exact ⟨_, _, _, rfl, by omega, by omega, by omega, by omega⟩
  · simp only [if_neg c, mask255]
    exact ⟨_, _, _, rfl, by omega, by omega, hp⟩
theorem tmod_lt {v n : Int} (hv : 0 ≤ v) (hn : 0 < n) : 0 ≤ Int.tmod v n ∧ Int.tmod v n < n := by
  rw [Int.tmod_eq_emod_of_nonneg hv]
  exact ⟨Int.emod_nonneg _ (by omega), Int.emod_lt_of_pos _ hn⟩
theorem below_ex (l : List Int) (hl : l.length ≤ 1048576) (p x n : Int) (hp : At l p) : ∃ b q y, spec_l01Below.f l p x n = some (b, q, y) ∧ 0 ≤ b ∧ (0 < n → b < n) ∧ (n ≤ 0 → b = 0) ∧ At l q := by
  unfold spec_l01Below.f
  by_cases c : n ≤ 0
  · simp only [if_pos c]
    exact ⟨_, _, _, rfl, by omega, by omega, fun _ => rfl, hp⟩
  · simp only [if_neg c]
    by_cases c2 : n ≤ 256
    · obtain ⟨b, q, y, h, h0, h1, h2⟩ := byte_ex l hl p x hp
      simp only [if_pos c2, h, Option.bind_some, if_neg (show ¬ n = 0 by omega)]
      have := tmod_lt h0 (show 0 < n by omega)
      exact ⟨_, _, _, rfl, this.1, fun _ => this.2, by omega, h2⟩
    · obtain ⟨b1, q1, y1, e1, g1, k1, p1⟩ := byte_ex l hl p x hp
      obtain ⟨b2, q2, y2, e2, g2, k2, p2⟩ := byte_ex l hl q1 y1 p1
      obtain ⟨b3, q3, y3, e3, g3, k3, p3⟩ := byte_ex l hl q2 y2 p2
      obtain ⟨b4, q4, y4, e4, g4, k4, p4⟩ := byte_ex l hl q3 y3 p3
      simp only [if_neg c2, e1, e2, e3, e4, Option.bind_some, if_neg (show ¬ n = 0 by omega)]
      have := tmod_lt (v := wrap64 ((wrap64 ((wrap64 ((wrap64 (b1 * 16777216)) + (wrap64 (b2 * 65536)))) + (wrap64 (b3 * 256)))) + b4)) (by unfold wrap64; omega) (show 0 < n by omega)
      exact ⟨_, _, _, rfl, this.1, fun _ => this.2, by omega, p4⟩
def knowB (l : List Int) : Bool := (l.all fun x => inB x 0 1000) && ((l.length : Int) == 3)
theorem all_drop (l : List Int) (i : Nat) (h : i < l.length) : ((l.drop i).all fun x => inB x 0 1000) = (inB (rd l (i : Int)) 0 1000 && (l.drop (i + 1)).all fun x => inB x 0 1000) := by
  rw [drop_rd l i h]; rfl
theorem know_l0 (l : List Int) (hl : l.length ≤ 1048576) : ∀ (d i : Nat) (out : List Int) (p x : Int), i + d = 3 → out.length = i → (∀ v ∈ out, 0 ≤ v ∧ v < 5) → At l p → ∃ r q y, Ev (fun k => spec_l04Know.l0 k out (i : Int) l p x) (r, q, y) ∧ r.length = 3 ∧ (∀ v ∈ r, 0 ≤ v ∧ v < 5) ∧ At l q
  | 0, i, out, p, x, hi, ho, hv, hp => ⟨out, p, x, by
    refine Ev.step (fun k => rfl) ?_
    simp only [spec_l04Know.l0, if_neg (show ¬ (i : Int) < 3 by omega)]
    exact Ev.now _, by omega, hv, hp⟩
  | d + 1, i, out, p, x, hi, ho, hv, hp => by
    obtain ⟨b, q, y, e, g, k, _, p1⟩ := below_ex l hl p x 5 hp
    have hk := k (by omega)
    obtain ⟨r, q2, y2, er, h⟩ := know_l0 l hl d (i + 1) (out ++ [b]) q y (by omega) (by rw [List.length_append, ho]; rfl) (by
      intro v hm
      rcases List.mem_append.1 hm with h | h
      · exact hv v h
      · rw [List.mem_singleton.1 h]; exact ⟨g, hk⟩) p1
    refine ⟨r, q2, y2, Ev.step (fun k => rfl) ?_, h⟩
    simp only [spec_l04Know.l0, if_pos (show (i : Int) < 3 by omega), e, Option.bind_some, if_pos (show out.length < 17592186044416 by omega), wr i (by omega)]
    exact er
def sm (x : Int) : Prop := 0 ≤ x ∧ x < 5
theorem know_ex (l : List Int) (hl : l.length ≤ 1048576) (p x : Int) (hp : At l p) : ∃ a b c q y, Ev (fun k => spec_l04Know.f k l p x) ([a, b, c], q, y) ∧ sm a ∧ sm b ∧ sm c ∧ At l q := by
  obtain ⟨r, q, y, e, h3, hv, hq⟩ := know_l0 l hl 3 0 [] p x (by omega) rfl (by simp) hp
  match r, h3 with
  | [a, b, c], _ => exact ⟨a, b, c, q, y, e, hv a (by simp), hv b (by simp), hv c (by simp), hq⟩
theorem drawKnow_ex (l : List Int) (hl : l.length ≤ 1048576) : ∃ a b c d e f, Ev (fun k => spec_DrawKnow.f k l) ([a, b, c], [d, e, f]) ∧ sm a ∧ sm b ∧ sm c ∧ sm d ∧ sm e ∧ sm f := by
  obtain ⟨y, h0⟩ := new_ex l hl
  obtain ⟨a, b, c, q, z, h1, s1, s2, s3, p1⟩ := know_ex l hl 0 y ⟨by omega, by omega⟩
  obtain ⟨d, e, f, q2, z2, h2, s4, s5, s6, p2⟩ := know_ex l hl q z p1
  exact ⟨a, b, c, d, e, f, by unfold spec_DrawKnow.f; exact Ev.bind h0 (Ev.bind h1 (Ev.bind h2 (Ev.now _))), s1, s2, s3, s4, s5, s6⟩
theorem pick_ex (l : List Int) (hl : l.length ≤ 1048576) (p x : Int) (hp : At l p) (m : List Int) (h0 : 0 < m.length) : ∃ v q y, spec_l01PickInt.f l p x m = some (v, q, y) ∧ At l q := by
  unfold spec_l01PickInt.f
  obtain ⟨a, q, y, e, g, k, _, p1⟩ := below_ex l hl p x (m.length : Int) hp
  have hk := k (by omega)
  simp only [e, Option.bind_some, if_pos g, if_pos hk]
  exact ⟨_, _, _, rfl, p1⟩
theorem any4_ex (l : List Int) (hl : l.length ≤ 1048576) (p x : Int) (hp : At l p) : ∃ r q y, Ev (fun k => spec_l04Any.f k l p x) (r, q, y) ∧ r.length ≤ 4 ∧ At l q := by
  unfold spec_l04Any.f
  obtain ⟨n, q1, y1, e1, g1, k1, _, p1⟩ := below_ex l hl p x 12 hp
  obtain ⟨a, b, c, q2, y2, e2, _, _, _, p2⟩ := know_ex l hl q1 y1 p1
  simp only [e1, Option.bind_some]
  by_cases c0 : n = 0
  · exact ⟨_, _, _, Ev.bind e2 (by simp only [if_pos c0, if_pos (show ([a, b, c] : List Int).length < 17592186044416 by simp)]; exact Ev.now _), by simp, p2⟩
  · by_cases c1 : n = 1
    · obtain ⟨v, q3, y3, e3, p3⟩ := pick_ex l hl q2 y2 p2 [-1, 1000, 1001] (by simp)
      exact ⟨_, _, _, Ev.bind e2 (by simp only [if_neg c0, if_pos c1, e3, Option.bind_some, if_pos (show (0 : Int) < (([a, b, c] : List Int).length : Int) by simp)]; exact Ev.now _), by simp, p3⟩
    · exact ⟨_, _, _, Ev.bind e2 (by simp only [if_neg c0, if_neg c1]; exact Ev.now _), by simp, p2⟩
theorem pair_ex (l : List Int) (hl : l.length ≤ 1048576) : ∃ a b, Ev (fun k => spec_DrawKnowIn.f k l) (a, b) ∧ a.length ≤ 4 ∧ b.length ≤ 4 := by
  obtain ⟨y, h0⟩ := new_ex l hl
  obtain ⟨a, q, z, h1, s1, p1⟩ := any4_ex l hl 0 y ⟨by omega, by omega⟩
  obtain ⟨b, q2, z2, h2, s2, _⟩ := any4_ex l hl q z p1
  refine ⟨a, b, ?_, s1, s2⟩
  unfold spec_DrawKnowIn.f spec_l04Pair.f
  exact Ev.bind (Ev.bind h0 (Ev.bind h1 (Ev.bind h2 (Ev.now _)))) (Ev.now _)
theorem dot_ex (l : List Int) (hl : l.length ≤ 1048576) (p x : Int) (hp : At l p) : ∃ r s q y, spec_l04AnyDot.f l p x = some (r, s, q, y) ∧ At l q := by
  unfold spec_l04AnyDot.f spec_l04Dot.f
  obtain ⟨n1, q1, y1, e1, g1, k1, _, p1⟩ := below_ex l hl p x 3 hp
  obtain ⟨n2, q2, y2, e2, g2, k2, _, p2⟩ := below_ex l hl q1 y1 5 p1
  obtain ⟨n3, q3, y3, e3, g3, k3, _, p3⟩ := below_ex l hl q2 y2 10 p2
  simp only [e1, e2, e3, Option.bind_some]
  by_cases c0 : n3 = 0
  · obtain ⟨v, q4, y4, e4, p4⟩ := pick_ex l hl q3 y3 p3 [-1, 3] (by simp)
    simp only [if_pos c0, e4, Option.bind_some]
    exact ⟨_, _, _, _, rfl, p4⟩
  · by_cases c1 : n3 = 1
    · obtain ⟨v, q4, y4, e4, p4⟩ := pick_ex l hl q3 y3 p3 [0, 1000, 1001] (by simp)
      simp only [if_neg c0, if_pos c1, e4, Option.bind_some]
      exact ⟨_, _, _, _, rfl, p4⟩
    · simp only [if_neg c0, if_neg c1]
      exact ⟨_, _, _, _, rfl, p3⟩
theorem drawKnows_ex (l : List Int) (hl : l.length ≤ 1048576) : ∃ a r s, Ev (fun k => spec_DrawKnows.f k l) (a, r, s) ∧ a.length ≤ 4 := by
  obtain ⟨y, h0⟩ := new_ex l hl
  obtain ⟨r, s, q, z, h1, p1⟩ := dot_ex l hl 0 y ⟨by omega, by omega⟩
  obtain ⟨a, q2, z2, h2, s2, _⟩ := any4_ex l hl q z p1
  refine ⟨a, r, s, ?_, s2⟩
  unfold spec_DrawKnows.f
  refine Ev.bind h0 ?_
  simp only [h1, Option.bind_some]
  exact Ev.bind h2 (Ev.now _)
theorem drawDot_ex (l : List Int) (hl : l.length ≤ 1048576) : ∃ r s, Ev (fun k => spec_DrawDotOk.f k l) (r, s) := by
  obtain ⟨y, h0⟩ := new_ex l hl
  obtain ⟨r, s, q, z, h1, p1⟩ := dot_ex l hl 0 y ⟨by omega, by omega⟩
  refine ⟨r, s, ?_⟩
  unfold spec_DrawDotOk.f
  refine Ev.bind h0 ?_
  simp only [h1, Option.bind_some]
  exact Ev.now _
theorem sameInts_l0 (l : List Int) (hl : l.length ≤ 140737488351232) : ∀ d i, i + d = l.length → Ev (fun k => laws_sameInts.l0 k l l (i : Int)) true
  | 0, i, hi => by
    refine Ev.step (fun k => rfl) ?_
    simp only [laws_sameInts.l0, if_neg (show ¬ (i : Int) < (l.length : Int) by omega)]
    exact Ev.now _
  | d + 1, i, hi => by
    refine Ev.step (fun k => rfl) ?_
    simp only [laws_sameInts.l0, if_pos (show (i : Int) < (l.length : Int) by omega), if_pos (show (0 : Int) ≤ (i : Int) by omega), if_true, wr i (by omega)]
    exact sameInts_l0 l hl d (i + 1) (by omega)
theorem sameInts_ev (l : List Int) (hl : l.length ≤ 140737488351232) : Ev (fun k => laws_sameInts.f k l l) true := by
  unfold laws_sameInts.f
  simp only [if_true]
  exact sameInts_l0 l hl l.length 0 (by omega)
theorem sameDots_l0 (l : List S29) (hl : l.length ≤ 140737488351232) : ∀ d i, i + d = l.length → Ev (fun k => laws_sameDots.l0 k l l (i : Int)) true
  | 0, i, hi => by
    refine Ev.step (fun k => rfl) ?_
    simp only [laws_sameDots.l0, if_neg (show ¬ (i : Int) < (l.length : Int) by omega)]
    exact Ev.now _
  | d + 1, i, hi => by
    refine Ev.step (fun k => rfl) ?_
    simp only [laws_sameDots.l0, if_pos (show (i : Int) < (l.length : Int) by omega), if_pos (show (0 : Int) ≤ (i : Int) by omega), beq_self_eq_true, Bool.not_true, Bool.or_self, Bool.false_eq_true, if_false, wr i (by omega)]
    exact sameDots_l0 l hl d (i + 1) (by omega)
theorem sameDots_ev (l : List S29) (hl : l.length ≤ 140737488351232) : Ev (fun k => laws_sameDots.f k l l) true := by
  unfold laws_sameDots.f
  simp only [if_true]
  exact sameDots_l0 l hl l.length 0 (by omega)
theorem impl_in (x lo hi : Int) : impl_within.f x lo hi = some (inB x lo hi) := in_ite x lo hi
theorem impl_KnowOk_l0 (l : List Int) (hl : l.length ≤ 140737488351232) : ∀ d i, i + d = l.length → Ev (fun k => impl_KnowOk.l0 k l l (l.length : Int) (i : Int)) (((l.drop i).all fun x => inB x 0 1000) && ((l.length : Int) == 3))
  | 0, i, hi => by
    refine Ev.step (fun k => rfl) ?_
    simp only [impl_KnowOk.l0, if_neg (show ¬ (i : Int) < (l.length : Int) by omega), List.drop_eq_nil_of_le (show l.length ≤ i by omega), List.all_nil, Bool.true_and]
    exact Ev.now _
  | d + 1, i, hi => by
    refine Ev.step (fun k => rfl) ?_
    have ih := impl_KnowOk_l0 l hl d (i + 1) (by omega)
    simp only [impl_KnowOk.l0, if_pos (show (i : Int) < (l.length : Int) by omega), if_pos (show (0 : Int) ≤ (i : Int) by omega), wr i (by omega), impl_in, Option.bind_some, all_drop l i (by omega)]
    cases inB (rd l (i : Int)) 0 1000
    · exact Ev.now _
    · exact ih
theorem impl_KnowOk_ev (l : List Int) (hl : l.length ≤ 140737488351232) : Ev (fun k => impl_KnowOk.f k l) (knowB l) := impl_KnowOk_l0 l hl l.length 0 (by omega)
theorem know3 {l : List Int} (h : knowB l = true) : ∃ x y z, l = [x, y, z] ∧ (0 ≤ x ∧ x ≤ 1000) ∧ (0 ≤ y ∧ y ≤ 1000) ∧ (0 ≤ z ∧ z ≤ 1000) := by
  unfold knowB at h
  simp only [Bool.and_eq_true, beq_iff_eq] at h
  obtain ⟨h1, h2⟩ := h
  match l, h2 with
  | [x, y, z], _ =>
    simp [inB_true] at h1
    exact ⟨x, y, z, rfl, h1⟩
  | [], h => simp at h
  | [_], h => simp at h
  | [_, _], h => simp at h
  | _ :: _ :: _ :: _ :: _, h => simp at h; omega
theorem rd0 (x y z : Int) : rd [x, y, z] 0 = x := by simp [rd]
theorem rd1 (x y z : Int) : rd [x, y, z] 1 = y := by simp [rd]
theorem rd2 (x y z : Int) : rd [x, y, z] 2 = z := by simp [rd]
theorem w1 : wrap64 (0 + 1) = 1 := by rw [wi (by omega)]; rfl
theorem w2 : wrap64 (1 + 1) = 2 := by rw [wi (by omega)]; rfl
theorem w3 : wrap64 (2 + 1) = 3 := by rw [wi (by omega)]; rfl
theorem len3 (x y z : Int) : (([x, y, z] : List Int).length : Int) = 3 := by simp
def knowMaxL (a b : List Int) : List Int := if knowB a = true then (if knowB b = true then [mx (rd a 0) (rd b 0), mx (rd a 1) (rd b 1), mx (rd a 2) (rd b 2)] else []) else []
theorem copyInts_eq (l : List Int) (h : l.length < 1000) : impl_copyInts.f l = some l := by
  unfold impl_copyInts.f
  simp only [Option.bind_some, List.length_nil, List.nil_append, if_pos (show 0 + l.length < 17592186044416 by omega)]
theorem impl_KnowMax_l0 (a a' b : List Int) (i j : Int) (h0 : 0 ≤ i) (h3 : i < 3) (h1 : (a.length : Int) = 3) (h2 : (b.length : Int) = 3) (hs : a.set i.toNat (mx (rd a i) (rd b i)) = a') (hj : wrap64 (i + 1) = j) (r : List Int) (h : Ev (fun k => impl_KnowMax.l0 k a' b 3 j) r) : Ev (fun k => impl_KnowMax.l0 k a b 3 i) r := by
  refine Ev.step (fun k => rfl) ?_
  simp only [impl_KnowMax.l0, h1, h2, if_pos h3, if_pos h0, hs, hj]
  exact h
theorem impl_KnowMax_ev (a b : List Int) (ha : a.length ≤ 140737488351232) (hb : b.length ≤ 140737488351232) : Ev (fun k => impl_KnowMax.f k a b) (knowMaxL a b) := by
  unfold impl_KnowMax.f knowMaxL
  refine Ev.bind (impl_KnowOk_ev a ha) ?_
  by_cases ka : knowB a = true
  · simp only [if_pos ka]
    refine Ev.bind (impl_KnowOk_ev b hb) ?_
    refine Ev.step (fun k => rfl) ?_
    by_cases kb : knowB b = true
    · simp only [impl_KnowMax.j0, kb, Bool.not_true, Bool.false_eq_true, if_false, if_true]
      obtain ⟨x, y, z, rfl, -, -, -⟩ := know3 ka
      obtain ⟨u, v, w, rfl, -, -, -⟩ := know3 kb
      simp only [copyInts_eq _ (show ([x, y, z] : List Int).length < 1000 by simp), Option.bind_some, len3]
      refine impl_KnowMax_l0 _ [mx x u, y, z] _ 0 1 (by omega) (by omega) (by simp) (by simp) (by rw [rd0, rd0]; rfl) w1 _ ?_
      refine impl_KnowMax_l0 _ [mx x u, mx y v, z] _ 1 2 (by omega) (by omega) (by simp) (by simp) (by rw [rd1, rd1]; rfl) w2 _ ?_
      refine impl_KnowMax_l0 _ [mx x u, mx y v, mx z w] _ 2 3 (by omega) (by omega) (by simp) (by simp) (by rw [rd2, rd2]; rfl) w3 _ ?_
      refine Ev.step (fun k => rfl) ?_
      simp only [impl_KnowMax.l0, if_neg (show ¬ (3 : Int) < 3 by omega), rd0, rd1, rd2]
      exact Ev.now _
    · simp only [impl_KnowMax.j0, Bool.eq_false_iff.2 kb, Bool.not_false, if_true, Bool.false_eq_true, if_false]
      exact Ev.now _
  · simp only [if_neg ka]
    refine Ev.step (fun k => rfl) ?_
    simp only [impl_KnowMax.j0, if_true]
    exact Ev.now _
def knowMinL (a b : List Int) : List Int := if knowB a = true then (if knowB b = true then [mn (rd a 0) (rd b 0), mn (rd a 1) (rd b 1), mn (rd a 2) (rd b 2)] else []) else []
theorem impl_KnowMin_l0 (a a' b : List Int) (i j : Int) (h0 : 0 ≤ i) (h3 : i < 3) (h1 : (a.length : Int) = 3) (h2 : (b.length : Int) = 3) (hs : a.set i.toNat (mn (rd a i) (rd b i)) = a') (hj : wrap64 (i + 1) = j) (r : List Int) (h : Ev (fun k => impl_KnowMin.l0 k a' b 3 j) r) : Ev (fun k => impl_KnowMin.l0 k a b 3 i) r := by
  refine Ev.step (fun k => rfl) ?_
  simp only [impl_KnowMin.l0, h1, h2, if_pos h3, if_pos h0, hs, hj]
  exact h
theorem impl_KnowMin_ev (a b : List Int) (ha : a.length ≤ 140737488351232) (hb : b.length ≤ 140737488351232) : Ev (fun k => impl_KnowMin.f k a b) (knowMinL a b) := by
  unfold impl_KnowMin.f knowMinL
  refine Ev.bind (impl_KnowOk_ev a ha) ?_
  by_cases ka : knowB a = true
  · simp only [if_pos ka]
    refine Ev.bind (impl_KnowOk_ev b hb) ?_
    refine Ev.step (fun k => rfl) ?_
    by_cases kb : knowB b = true
    · simp only [impl_KnowMin.j0, kb, Bool.not_true, Bool.false_eq_true, if_false, if_true]
      obtain ⟨x, y, z, rfl, -, -, -⟩ := know3 ka
      obtain ⟨u, v, w, rfl, -, -, -⟩ := know3 kb
      simp only [copyInts_eq _ (show ([x, y, z] : List Int).length < 1000 by simp), Option.bind_some, len3]
      refine impl_KnowMin_l0 _ [mn x u, y, z] _ 0 1 (by omega) (by omega) (by simp) (by simp) (by rw [rd0, rd0]; rfl) w1 _ ?_
      refine impl_KnowMin_l0 _ [mn x u, mn y v, z] _ 1 2 (by omega) (by omega) (by simp) (by simp) (by rw [rd1, rd1]; rfl) w2 _ ?_
      refine impl_KnowMin_l0 _ [mn x u, mn y v, mn z w] _ 2 3 (by omega) (by omega) (by simp) (by simp) (by rw [rd2, rd2]; rfl) w3 _ ?_
      refine Ev.step (fun k => rfl) ?_
      simp only [impl_KnowMin.l0, if_neg (show ¬ (3 : Int) < 3 by omega), rd0, rd1, rd2]
      exact Ev.now _
    · simp only [impl_KnowMin.j0, Bool.eq_false_iff.2 kb, Bool.not_false, if_true, Bool.false_eq_true, if_false]
      exact Ev.now _
  · simp only [if_neg ka]
    refine Ev.step (fun k => rfl) ?_
    simp only [impl_KnowMin.j0, if_true]
    exact Ev.now _
def runD (r : Int) : Nat → Int → List S29
  | 0, _ => []
  | d + 1, s => ⟨r, s⟩ :: runD r d (s + 1)
theorem runD_len (r : Int) : ∀ (d : Nat) (s : Int), (runD r d s).length = d
  | 0, _ => rfl
  | d + 1, s => by simp [runD, runD_len r d]
def gap (x u : Int) : Nat := (u - x).toNat
def dotsL (a b : List Int) : List S29 :=
  if knowB a = true then (if knowB b = true then runD 0 (gap (rd a 0) (rd b 0)) (rd a 0 + 1) ++ (runD 1 (gap (rd a 1) (rd b 1)) (rd a 1 + 1) ++ runD 2 (gap (rd a 2) (rd b 2)) (rd a 2 + 1)) else []) else []
theorem dotsL_len (a b : List Int) : (dotsL a b).length ≤ 3000 := by
  unfold dotsL
  by_cases ka : knowB a = true
  · by_cases kb : knowB b = true
    · obtain ⟨x, y, z, rfl, hx, hy, hz⟩ := know3 ka
      obtain ⟨u, v, w, rfl, hu, hv, hw⟩ := know3 kb
      rw [if_pos ka, if_pos kb, List.length_append, List.length_append, runD_len, runD_len, runD_len]
      simp only [rd0, rd1, rd2, gap]
      omega
    · simp [ka, kb]
  · simp [ka]
theorem impl_DotsIn_l1 (a b : List Int) (i n u : Int) (h0 : 0 ≤ i) (h1 : i < (b.length : Int)) (hu : rd b i = u) (hm : u ≤ 1000) (r : List S29) : ∀ (d : Nat) (s : Int) (out : List S29), d = (u + 1 - s).toNat → 0 ≤ s → out.length + d ≤ 100000 →
    Ev (fun k => impl_DotsIn.l0 k b (out ++ runD i d s) a n (wrap64 (i + 1))) r → Ev (fun k => impl_DotsIn.l1 k b out i s a n i) r
  | 0, s, out, hd, hs, ho, h => by
    refine Ev.step (fun k => rfl) ?_
    simp only [impl_DotsIn.l1, if_pos h0, if_pos h1, hu, if_neg (show ¬ s ≤ u by omega)]
    simpa [runD] using h
  | d + 1, s, out, hd, hs, ho, h => by
    refine Ev.step (fun k => rfl) ?_
    simp only [impl_DotsIn.l1, if_pos h0, if_pos h1, hu, if_pos (show s ≤ u by omega), if_pos (show out.length < 8796093022208 by omega), wi (n := s + 1) (by omega)]
    refine impl_DotsIn_l1 a b i n u h0 h1 hu hm r d (s + 1) _ (by omega) (by omega) (by simp; omega) ?_
    simpa [runD] using h
theorem impl_DotsIn_row (a b : List Int) (out : List S29) (i j x u : Int) (h0 : 0 ≤ i) (h3 : i < 3) (ha : i < (a.length : Int)) (hb : i < (b.length : Int)) (hx : rd a i = x) (hu : rd b i = u) (hxr : 0 ≤ x ∧ x ≤ 1000) (hm : u ≤ 1000) (hj : wrap64 (i + 1) = j) (ho : out.length ≤ 10000) (r : List S29)
    (h : Ev (fun k => impl_DotsIn.l0 k b (out ++ runD i (gap x u) (x + 1)) a 3 j) r) : Ev (fun k => impl_DotsIn.l0 k b out a 3 i) r := by
  refine Ev.step (fun k => rfl) ?_
  simp only [impl_DotsIn.l0, if_pos h3, if_pos ha, if_pos h0, hx, wi (n := x + 1) (by omega)]
  refine impl_DotsIn_l1 a b i 3 u h0 hb hu hm r (gap x u) (x + 1) out (by unfold gap; omega) (by omega) (by unfold gap; omega) ?_
  rw [hj]; exact h
theorem impl_DotsIn_ev (a b : List Int) (ha : a.length ≤ 140737488351232) (hb : b.length ≤ 140737488351232) : Ev (fun k => impl_DotsIn.f k a b) (dotsL a b) := by
  unfold impl_DotsIn.f dotsL
  simp only [Option.bind_some]
  refine Ev.bind (impl_KnowOk_ev a ha) ?_
  by_cases ka : knowB a = true
  · simp only [if_pos ka]
    refine Ev.bind (impl_KnowOk_ev b hb) ?_
    refine Ev.step (fun k => rfl) ?_
    by_cases kb : knowB b = true
    · simp only [impl_DotsIn.j0, kb, Bool.not_true, Bool.false_eq_true, if_false, if_true]
      obtain ⟨x, y, z, rfl, hx, hy, hz⟩ := know3 ka
      obtain ⟨u, v, w, rfl, hu, hv, hw⟩ := know3 kb
      simp only [len3]
      refine impl_DotsIn_row _ _ _ 0 1 x u (by omega) (by omega) (by simp) (by simp) (rd0 ..) (rd0 ..) hx (by omega) w1 (by simp) _ ?_
      refine impl_DotsIn_row _ _ _ 1 2 y v (by omega) (by omega) (by simp) (by simp) (rd1 ..) (rd1 ..) hy (by omega) w2 (by simp only [List.nil_append, runD_len, gap]; omega) _ ?_
      refine impl_DotsIn_row _ _ _ 2 3 z w (by omega) (by omega) (by simp) (by simp) (rd2 ..) (rd2 ..) hz (by omega) w3 (by simp only [List.nil_append, List.length_append, runD_len, gap]; omega) _ ?_
      refine Ev.step (fun k => rfl) ?_
      simp only [impl_DotsIn.l0, if_neg (show ¬ (3 : Int) < 3 by omega), rd0, rd1, rd2, List.nil_append, List.append_assoc]
      exact Ev.now _
    · simp only [impl_DotsIn.j0, Bool.eq_false_iff.2 kb, Bool.not_false, if_true, Bool.false_eq_true, if_false]
      exact Ev.now _
  · simp only [if_neg ka]
    refine Ev.step (fun k => rfl) ?_
    simp only [impl_DotsIn.j0, if_true]
    exact Ev.now _
def dotB (r s : Int) : Bool := if inB r 0 2 = true then inB s 1 1000 else false
theorem impl_DotOk_eq (r s : Int) : impl_DotOk.f r s = some (dotB r s) := by
  unfold impl_DotOk.f dotB
  simp only [impl_in, Option.bind_some]
  split <;> rfl
def knowsB (l : List Int) (r s : Int) : Bool := if knowB l = true then (if dotB r s = true then decide (s ≤ rd l r) else false) else false
theorem impl_Knows_ev (l : List Int) (r s : Int) (hl : l.length ≤ 140737488351232) : Ev (fun k => impl_Knows.f k l r s) (knowsB l r s) := by
  unfold impl_Knows.f knowsB
  refine Ev.bind (impl_KnowOk_ev l hl) ?_
  by_cases ka : knowB l = true
  · simp only [if_pos ka, impl_DotOk_eq, Option.bind_some]
    by_cases kd : dotB r s = true
    · simp only [if_pos kd]
      have h1 : 0 ≤ r ∧ r ≤ 2 := by
        unfold dotB at kd
        by_cases c : inB r 0 2 = true
        · exact inB_true.1 c
        · simp [c] at kd
      have h2 : (l.length : Int) = 3 := by
        unfold knowB at ka
        simp only [Bool.and_eq_true, beq_iff_eq] at ka
        exact ka.2
      simp only [if_pos h1.1, if_pos (show r < (l.length : Int) by omega)]
      exact Ev.now _
    · simp only [if_neg kd]; exact Ev.now _
  · simp only [if_neg ka]; exact Ev.now _
theorem spec_in (x lo hi : Int) : spec_l01In.f x lo hi = some (inB x lo hi) := in_ite x lo hi
theorem spec_KnowOk_l0 (l : List Int) (hl : l.length ≤ 140737488351232) : ∀ d i, i + d = l.length → Ev (fun k => spec_KnowOk.l0 k l (i : Int)) (((l.drop i).all fun x => inB x 0 1000) && ((l.length : Int) == 3))
  | 0, i, hi => by
    refine Ev.step (fun k => rfl) ?_
    simp only [spec_KnowOk.l0, if_neg (show ¬ (i : Int) < (l.length : Int) by omega), List.drop_eq_nil_of_le (show l.length ≤ i by omega), List.all_nil, Bool.true_and]
    exact Ev.now _
  | d + 1, i, hi => by
    refine Ev.step (fun k => rfl) ?_
    have ih := spec_KnowOk_l0 l hl d (i + 1) (by omega)
    simp only [spec_KnowOk.l0, if_pos (show (i : Int) < (l.length : Int) by omega), if_pos (show (0 : Int) ≤ (i : Int) by omega), wr i (by omega), spec_in, Option.bind_some, all_drop l i (by omega)]
    cases inB (rd l (i : Int)) 0 1000
    · exact Ev.now _
    · exact ih
theorem spec_KnowOk_ev (l : List Int) (hl : l.length ≤ 140737488351232) : Ev (fun k => spec_KnowOk.f k l) (knowB l) := spec_KnowOk_l0 l hl l.length 0 (by omega)
theorem spec_DotOk_eq (r s : Int) : spec_DotOk.f r s = some (dotB r s) := by
  unfold spec_DotOk.f dotB
  simp only [spec_in, Option.bind_some]
  split <;> rfl
theorem spec_Knows_ev (l : List Int) (r s : Int) (hl : l.length ≤ 140737488351232) : Ev (fun k => spec_Knows.f k l r s) (knowsB l r s) := by
  unfold spec_Knows.f knowsB
  refine Ev.bind (spec_KnowOk_ev l hl) ?_
  by_cases ka : knowB l = true
  · simp only [if_pos ka, spec_DotOk_eq, Option.bind_some]
    by_cases kd : dotB r s = true
    · simp only [if_pos kd]
      have h1 : 0 ≤ r ∧ r ≤ 2 := by
        unfold dotB at kd
        by_cases c : inB r 0 2 = true
        · exact inB_true.1 c
        · simp [c] at kd
      have h2 : (l.length : Int) = 3 := by
        unfold knowB at ka
        simp only [Bool.and_eq_true, beq_iff_eq] at ka
        exact ka.2
      simp only [if_pos h1.1, if_pos (show r < (l.length : Int) by omega)]
      exact Ev.now _
    · simp only [if_neg kd]; exact Ev.now _
  · simp only [if_neg ka]; exact Ev.now _
def knowInB (a b : List Int) : Bool :=
  if knowB a = true then (if knowB b = true then (if rd a 0 > rd b 0 then false else if rd a 1 > rd b 1 then false else if rd a 2 > rd b 2 then false else true) else false) else false
theorem impl_KnowIn_ev (a b : List Int) (ha : a.length ≤ 140737488351232) (hb : b.length ≤ 140737488351232) : Ev (fun k => impl_KnowIn.f k a b) (knowInB a b) := by
  unfold impl_KnowIn.f knowInB
  refine Ev.bind (impl_KnowOk_ev a ha) ?_
  by_cases ka : knowB a = true
  · simp only [if_pos ka]
    refine Ev.bind (impl_KnowOk_ev b hb) ?_
    refine Ev.step (fun k => rfl) ?_
    by_cases kb : knowB b = true
    · simp only [impl_KnowIn.j0, kb, Bool.not_true, Bool.false_eq_true, if_false, if_true]
      obtain ⟨x, y, z, rfl, -, -, -⟩ := know3 ka
      obtain ⟨u, v, w, rfl, -, -, -⟩ := know3 kb
      simp only [rd0, rd1, rd2]
      refine Ev.step (fun k => rfl) ?_
      simp only [impl_KnowIn.l0, len3, rd0, w1, if_pos (show (0 : Int) < 3 by omega), if_pos (show (0 : Int) ≤ 0 by omega)]
      by_cases c0 : x > u
      · simp only [if_pos c0]; exact Ev.now _
      simp only [if_neg c0]
      refine Ev.step (fun k => rfl) ?_
      simp only [impl_KnowIn.l0, len3, rd1, w2, if_pos (show (1 : Int) < 3 by omega), if_pos (show (0 : Int) ≤ 1 by omega)]
      by_cases c1 : y > v
      · simp only [if_pos c1]; exact Ev.now _
      simp only [if_neg c1]
      refine Ev.step (fun k => rfl) ?_
      simp only [impl_KnowIn.l0, len3, rd2, w3, if_pos (show (2 : Int) < 3 by omega), if_pos (show (0 : Int) ≤ 2 by omega)]
      by_cases c2 : z > w
      · simp only [if_pos c2]; exact Ev.now _
      simp only [if_neg c2]
      refine Ev.step (fun k => rfl) ?_
      simp only [impl_KnowIn.l0, len3, if_neg (show ¬ (3 : Int) < 3 by omega)]
      exact Ev.now _
    · simp only [impl_KnowIn.j0, Bool.eq_false_iff.2 kb, Bool.not_false, if_true, Bool.false_eq_true, if_false]
      exact Ev.now _
  · simp only [if_neg ka]
    refine Ev.step (fun k => rfl) ?_
    simp only [impl_KnowIn.j0, if_true]
    exact Ev.now _
theorem spec_KnowIn_ev (a b : List Int) (ha : a.length ≤ 140737488351232) (hb : b.length ≤ 140737488351232) : Ev (fun k => spec_KnowIn.f k a b) (knowInB a b) := by
  unfold spec_KnowIn.f knowInB
  refine Ev.bind (spec_KnowOk_ev a ha) ?_
  by_cases ka : knowB a = true
  · simp only [if_pos ka]
    refine Ev.bind (spec_KnowOk_ev b hb) ?_
    refine Ev.step (fun k => rfl) ?_
    by_cases kb : knowB b = true
    · simp only [spec_KnowIn.j0, kb, Bool.not_true, Bool.false_eq_true, if_false, if_true]
      obtain ⟨x, y, z, rfl, -, -, -⟩ := know3 ka
      obtain ⟨u, v, w, rfl, -, -, -⟩ := know3 kb
      simp only [rd0, rd1, rd2]
      refine Ev.step (fun k => rfl) ?_
      simp only [spec_KnowIn.l0, len3, rd0, w1, if_pos (show (0 : Int) < 3 by omega), if_pos (show (0 : Int) ≤ 0 by omega)]
      by_cases c0 : x > u
      · simp only [if_pos c0]; exact Ev.now _
      simp only [if_neg c0]
      refine Ev.step (fun k => rfl) ?_
      simp only [spec_KnowIn.l0, len3, rd1, w2, if_pos (show (1 : Int) < 3 by omega), if_pos (show (0 : Int) ≤ 1 by omega)]
      by_cases c1 : y > v
      · simp only [if_pos c1]; exact Ev.now _
      simp only [if_neg c1]
      refine Ev.step (fun k => rfl) ?_
      simp only [spec_KnowIn.l0, len3, rd2, w3, if_pos (show (2 : Int) < 3 by omega), if_pos (show (0 : Int) ≤ 2 by omega)]
      by_cases c2 : z > w
      · simp only [if_pos c2]; exact Ev.now _
      simp only [if_neg c2]
      refine Ev.step (fun k => rfl) ?_
      simp only [spec_KnowIn.l0, len3, if_neg (show ¬ (3 : Int) < 3 by omega)]
      exact Ev.now _
    · simp only [spec_KnowIn.j0, Bool.eq_false_iff.2 kb, Bool.not_false, if_true, Bool.false_eq_true, if_false]
      exact Ev.now _
  · simp only [if_neg ka]
    refine Ev.step (fun k => rfl) ?_
    simp only [spec_KnowIn.j0, if_true]
    exact Ev.now _
theorem spec_KnowMax_l0 (a b out : List Int) (x u : Int) (i j : Int) (h1 : i < (a.length : Int)) (h0 : 0 ≤ i) (h2 : i < (b.length : Int)) (ha : rd a i = x) (hb : rd b i = u) (hj : wrap64 (i + 1) = j) (ho : out.length < 1000) (r : List Int) (h : Ev (fun k => spec_KnowMax.l0 k a b (out ++ [mx x u]) j) r) : Ev (fun k => spec_KnowMax.l0 k a b out i) r := by
  refine Ev.step (fun k => rfl) ?_
  simp only [spec_KnowMax.l0, if_pos h1, if_pos h0, if_pos h2, ha, hb, hj, if_pos (show out.length < 17592186044416 by omega)]
  by_cases c : u > x
  · simp only [if_pos c]
    rw [show mx x u = u by unfold mx; split <;> omega] at h; exact h
  · simp only [if_neg c]
    rw [show mx x u = x by unfold mx; split <;> omega] at h; exact h
theorem spec_KnowMax_ev (a b : List Int) (ha : a.length ≤ 140737488351232) (hb : b.length ≤ 140737488351232) : Ev (fun k => spec_KnowMax.f k a b) (knowMaxL a b) := by
  unfold spec_KnowMax.f knowMaxL
  simp only [Option.bind_some]
  refine Ev.bind (spec_KnowOk_ev a ha) ?_
  by_cases ka : knowB a = true
  · simp only [if_pos ka]
    refine Ev.bind (spec_KnowOk_ev b hb) ?_
    refine Ev.step (fun k => rfl) ?_
    by_cases kb : knowB b = true
    · simp only [spec_KnowMax.j0, kb, Bool.not_true, Bool.false_eq_true, if_false, if_true]
      obtain ⟨x, y, z, rfl, -, -, -⟩ := know3 ka
      obtain ⟨u, v, w, rfl, -, -, -⟩ := know3 kb
      refine spec_KnowMax_l0 _ _ _ x u 0 1 (by simp) (by omega) (by simp) (rd0 ..) (rd0 ..) w1 (by simp) _ ?_
      refine spec_KnowMax_l0 _ _ _ y v 1 2 (by simp) (by omega) (by simp) (rd1 ..) (rd1 ..) w2 (by simp) _ ?_
      refine spec_KnowMax_l0 _ _ _ z w 2 3 (by simp) (by omega) (by simp) (rd2 ..) (rd2 ..) w3 (by simp) _ ?_
      refine Ev.step (fun k => rfl) ?_
      simp only [spec_KnowMax.l0, len3, if_neg (show ¬ (3 : Int) < 3 by omega), rd0, rd1, rd2, List.nil_append, List.cons_append]
      exact Ev.now _
    · simp only [spec_KnowMax.j0, Bool.eq_false_iff.2 kb, Bool.not_false, if_true, Bool.false_eq_true, if_false]
      exact Ev.now _
  · simp only [if_neg ka]
    refine Ev.step (fun k => rfl) ?_
    simp only [spec_KnowMax.j0, if_true]
    exact Ev.now _
theorem spec_KnowMin_l0 (a b out : List Int) (x u : Int) (i j : Int) (h1 : i < (a.length : Int)) (h0 : 0 ≤ i) (h2 : i < (b.length : Int)) (ha : rd a i = x) (hb : rd b i = u) (hj : wrap64 (i + 1) = j) (ho : out.length < 1000) (r : List Int) (h : Ev (fun k => spec_KnowMin.l0 k a b (out ++ [mn x u]) j) r) : Ev (fun k => spec_KnowMin.l0 k a b out i) r := by
  refine Ev.step (fun k => rfl) ?_
  simp only [spec_KnowMin.l0, if_pos h1, if_pos h0, if_pos h2, ha, hb, hj, if_pos (show out.length < 17592186044416 by omega)]
  by_cases c : u < x
  · simp only [if_pos c]
    rw [show mn x u = u by unfold mn; split <;> omega] at h; exact h
  · simp only [if_neg c]
    rw [show mn x u = x by unfold mn; split <;> omega] at h; exact h
theorem spec_KnowMin_ev (a b : List Int) (ha : a.length ≤ 140737488351232) (hb : b.length ≤ 140737488351232) : Ev (fun k => spec_KnowMin.f k a b) (knowMinL a b) := by
  unfold spec_KnowMin.f knowMinL
  simp only [Option.bind_some]
  refine Ev.bind (spec_KnowOk_ev a ha) ?_
  by_cases ka : knowB a = true
  · simp only [if_pos ka]
    refine Ev.bind (spec_KnowOk_ev b hb) ?_
    refine Ev.step (fun k => rfl) ?_
    by_cases kb : knowB b = true
    · simp only [spec_KnowMin.j0, kb, Bool.not_true, Bool.false_eq_true, if_false, if_true]
      obtain ⟨x, y, z, rfl, -, -, -⟩ := know3 ka
      obtain ⟨u, v, w, rfl, -, -, -⟩ := know3 kb
      refine spec_KnowMin_l0 _ _ _ x u 0 1 (by simp) (by omega) (by simp) (rd0 ..) (rd0 ..) w1 (by simp) _ ?_
      refine spec_KnowMin_l0 _ _ _ y v 1 2 (by simp) (by omega) (by simp) (rd1 ..) (rd1 ..) w2 (by simp) _ ?_
      refine spec_KnowMin_l0 _ _ _ z w 2 3 (by simp) (by omega) (by simp) (rd2 ..) (rd2 ..) w3 (by simp) _ ?_
      refine Ev.step (fun k => rfl) ?_
      simp only [spec_KnowMin.l0, len3, if_neg (show ¬ (3 : Int) < 3 by omega), rd0, rd1, rd2, List.nil_append, List.cons_append]
      exact Ev.now _
    · simp only [spec_KnowMin.j0, Bool.eq_false_iff.2 kb, Bool.not_false, if_true, Bool.false_eq_true, if_false]
      exact Ev.now _
  · simp only [if_neg ka]
    refine Ev.step (fun k => rfl) ?_
    simp only [spec_KnowMin.j0, if_true]
    exact Ev.now _
theorem spec_DotsIn_l1 (a b : List Int) (i u : Int) (h0 : 0 ≤ i) (h1 : i < (b.length : Int)) (hu : rd b i = u) (hm : u ≤ 1000) (r : List S29) : ∀ (d : Nat) (s : Int) (out : List S29), d = (u + 1 - s).toNat → 0 ≤ s → out.length + d ≤ 100000 →
    Ev (fun k => spec_DotsIn.l0 k a b (out ++ runD i d s) (wrap64 (i + 1))) r → Ev (fun k => spec_DotsIn.l1 k a b out i s) r
  | 0, s, out, hd, hs, ho, h => by
    refine Ev.step (fun k => rfl) ?_
    simp only [spec_DotsIn.l1, if_pos h0, if_pos h1, hu, if_neg (show ¬ s ≤ u by omega)]
    simpa [runD] using h
  | d + 1, s, out, hd, hs, ho, h => by
    refine Ev.step (fun k => rfl) ?_
    simp only [spec_DotsIn.l1, if_pos h0, if_pos h1, hu, if_pos (show s ≤ u by omega), if_pos (show out.length < 8796093022208 by omega), wi (n := s + 1) (by omega)]
    refine spec_DotsIn_l1 a b i u h0 h1 hu hm r d (s + 1) _ (by omega) (by omega) (by simp; omega) ?_
    simpa [runD] using h
theorem spec_DotsIn_row (a b : List Int) (out : List S29) (i j x u : Int) (h0 : 0 ≤ i) (ha : i < (a.length : Int)) (hb : i < (b.length : Int)) (hx : rd a i = x) (hu : rd b i = u) (hxr : 0 ≤ x ∧ x ≤ 1000) (hm : u ≤ 1000) (hj : wrap64 (i + 1) = j) (ho : out.length ≤ 10000) (r : List S29)
    (h : Ev (fun k => spec_DotsIn.l0 k a b (out ++ runD i (gap x u) (x + 1)) j) r) : Ev (fun k => spec_DotsIn.l0 k a b out i) r := by
  refine Ev.step (fun k => rfl) ?_
  simp only [spec_DotsIn.l0, if_pos ha, if_pos h0, hx, wi (n := x + 1) (by omega)]
  refine spec_DotsIn_l1 a b i u h0 hb hu hm r (gap x u) (x + 1) out (by unfold gap; omega) (by omega) (by unfold gap; omega) ?_
  rw [hj]; exact h
theorem spec_DotsIn_ev (a b : List Int) (ha : a.length ≤ 140737488351232) (hb : b.length ≤ 140737488351232) : Ev (fun k => spec_DotsIn.f k a b) (dotsL a b) := by
  unfold spec_DotsIn.f dotsL
  simp only [Option.bind_some]
  refine Ev.bind (spec_KnowOk_ev a ha) ?_
  by_cases ka : knowB a = true
  · simp only [if_pos ka]
    refine Ev.bind (spec_KnowOk_ev b hb) ?_
    refine Ev.step (fun k => rfl) ?_
    by_cases kb : knowB b = true
    · simp only [spec_DotsIn.j0, kb, Bool.not_true, Bool.false_eq_true, if_false, if_true]
      obtain ⟨x, y, z, rfl, hx, hy, hz⟩ := know3 ka
      obtain ⟨u, v, w, rfl, hu, hv, hw⟩ := know3 kb
      refine spec_DotsIn_row _ _ _ 0 1 x u (by omega) (by simp) (by simp) (rd0 ..) (rd0 ..) hx (by omega) w1 (by simp) _ ?_
      refine spec_DotsIn_row _ _ _ 1 2 y v (by omega) (by simp) (by simp) (rd1 ..) (rd1 ..) hy (by omega) w2 (by simp only [List.nil_append, runD_len, gap]; omega) _ ?_
      refine spec_DotsIn_row _ _ _ 2 3 z w (by omega) (by simp) (by simp) (rd2 ..) (rd2 ..) hz (by omega) w3 (by simp only [List.nil_append, List.length_append, runD_len, gap]; omega) _ ?_
      refine Ev.step (fun k => rfl) ?_
      simp only [spec_DotsIn.l0, len3, if_neg (show ¬ (3 : Int) < 3 by omega), rd0, rd1, rd2, List.nil_append, List.append_assoc]
      exact Ev.now _
    · simp only [spec_DotsIn.j0, Bool.eq_false_iff.2 kb, Bool.not_false, if_true, Bool.false_eq_true, if_false]
      exact Ev.now _
  · simp only [if_neg ka]
    refine Ev.step (fun k => rfl) ?_
    simp only [spec_DotsIn.j0, if_true]
    exact Ev.now _
theorem mem_run {r : Int} : ∀ {d : Nat} {s : Int} {x : S29}, x ∈ runD r d s → x.f0 = r ∧ s ≤ x.f1 ∧ x.f1 < s + d
  | 0, s, x, h => by cases h
  | d + 1, s, x, h => by
    rcases List.mem_cons.1 h with h | h
    · rw [h]; exact ⟨rfl, by show s ≤ s; omega, by show s < s + ((d + 1 : Nat) : Int); omega⟩
    · have := mem_run h
      exact ⟨this.1, by omega, by omega⟩
theorem know_sm {a b c : Int} (ha : 0 ≤ a ∧ a < 5) (hb : 0 ≤ b ∧ b < 5) (hc : 0 ≤ c ∧ c < 5) : knowB [a, b, c] = true := by
  have h (x : Int) (h : 0 ≤ x ∧ x < 5) : inB x 0 1000 = true := inB_true.2 (by omega)
  simp [knowB, h a ha, h b hb, h c hc]
theorem mx_sm {a b : Int} (ha : sm a) (hb : sm b) : sm (mx a b) := by unfold sm mx at *; split <;> omega
theorem mn_sm {a b : Int} (ha : sm a) (hb : sm b) : sm (mn a b) := by unfold sm mn at *; split <;> omega
theorem in3 {a b c d e f : Int} (ha : sm a) (hb : sm b) (hc : sm c) (hd : sm d) (he : sm e) (hf : sm f) : knowInB [a, b, c] [d, e, f] = (if a > d then false else if b > e then false else if c > f then false else true) := by
  unfold knowInB
  rw [if_pos (know_sm ha hb hc), if_pos (know_sm hd he hf), rd0, rd0, rd1, rd1, rd2, rd2]
theorem in_true {a b c d e f : Int} (ha : sm a) (hb : sm b) (hc : sm c) (hd : sm d) (he : sm e) (hf : sm f) (h1 : a ≤ d) (h2 : b ≤ e) (h3 : c ≤ f) : knowInB [a, b, c] [d, e, f] = true := by
  rw [in3 ha hb hc hd he hf, if_neg (by omega), if_neg (by omega), if_neg (by omega)]
theorem dots3 {a b c d e f : Int} (ha : sm a) (hb : sm b) (hc : sm c) (hd : sm d) (he : sm e) (hf : sm f) : dotsL [a, b, c] [d, e, f] = runD 0 (gap a d) (a + 1) ++ (runD 1 (gap b e) (b + 1) ++ runD 2 (gap c f) (c + 1)) := by
  unfold dotsL
  rw [if_pos (know_sm ha hb hc), if_pos (know_sm hd he hf), rd0, rd0, rd1, rd1, rd2, rd2]
theorem dot_good {a b c d e f : Int} (ha : sm a) (hb : sm b) (hc : sm c) (hd : sm d) (he : sm e) (hf : sm f) {x : S29} (hx : x ∈ dotsL [a, b, c] [mx a d, mx b e, mx c f]) :
    knowsB [a, b, c] (x.f0) (x.f1) = false ∧ knowsB [d, e, f] (x.f0) (x.f1) = true ∧ dotB (x.f0) (x.f1) = true := by
  rw [dots3 ha hb hc (mx_sm ha hd) (mx_sm hb he) (mx_sm hc hf)] at hx
  have key : ∀ (i u v : Int) (g : rd [a, b, c] i = u) (g' : rd [d, e, f] i = v) (_ : 0 ≤ i ∧ i ≤ 2) (_ : sm u) (_ : sm v), x ∈ runD i (gap u (mx u v)) (u + 1) → knowsB [a, b, c] (x.f0) (x.f1) = false ∧ knowsB [d, e, f] (x.f0) (x.f1) = true ∧ dotB (x.f0) (x.f1) = true := by
    intro i u v g g' hi hu hv hm
    obtain ⟨e1, e2, e3⟩ := mem_run hm
    unfold gap mx at e3
    unfold sm at hu hv
    have hd' : dotB (x.f0) (x.f1) = true := by
      unfold dotB
      rw [if_pos (inB_true.2 (by omega)), inB_true]
      split at e3 <;> omega
    refine ⟨?_, ?_, hd'⟩
    · unfold knowsB
      rw [if_pos (know_sm ha hb hc), if_pos hd', e1, g]
      exact decide_eq_false (by omega)
    · unfold knowsB
      rw [if_pos (know_sm hd he hf), if_pos hd', e1, g']
      exact decide_eq_true (by split at e3 <;> omega)
  rcases List.mem_append.1 hx with h | h
  · exact key 0 a d (rd0 ..) (rd0 ..) (by omega) ha hd h
  · rcases List.mem_append.1 h with h | h
    · exact key 1 b e (rd1 ..) (rd1 ..) (by omega) hb he h
    · exact key 2 c f (rd2 ..) (rd2 ..) (by omega) hc hf h
theorem rdD_mem (l : List S29) (i : Nat) (h : i < l.length) : rd_T29 l (i : Int) ∈ l := by
  unfold rd_T29
  rw [Int.toNat_natCast, List.getD_eq_getElem?_getD, List.getElem?_eq_getElem h]
  exact List.getElem_mem h
theorem fnKnows_l1 (l a b m n : List Int) (D : List S29) (z : Int) (hl : D.length ≤ 140737488351232) (ha : a.length ≤ 140737488351232) (hb : b.length ≤ 140737488351232)
    (hg : ∀ x ∈ D, knowsB a (x.f0) (x.f1) = false ∧ knowsB b (x.f0) (x.f1) = true ∧ dotB (x.f0) (x.f1) = true)
    (hf : Ev (fun k => laws_FnKnows.l1 k l a b m n D z (D.length : Int)) true) : ∀ d i, i + d = D.length → Ev (fun k => laws_FnKnows.l1 k l a b m n D z (i : Int)) true
  | 0, i, hi => by rw [show i = D.length by omega]; exact hf
  | d + 1, i, hi => by
    refine Ev.step (fun k => rfl) ?_
    obtain ⟨g1, g2, g3⟩ := hg _ (rdD_mem D i (by omega))
    simp only [laws_FnKnows.l1, if_pos (show (i : Int) < (D.length : Int) by omega), if_pos (show (0 : Int) ≤ (i : Int) by omega), wr i (by omega)]
    refine Ev.bind (impl_Knows_ev a _ _ ha) ?_
    simp only [g1, Bool.false_eq_true, if_false]
    refine Ev.bind (impl_Knows_ev b _ _ hb) ?_
    simp only [g2, if_true, impl_DotOk_eq, g3, Option.bind_some]
    exact fnKnows_l1 l a b m n D z hl ha hb hg hf d (i + 1) (by omega)
theorem FnKnows : laws_FnKnows.Pure := by
  intro l hb
  refine Ev.rounds ?_
  unfold laws_FnKnows.f laws_big.f
  simp only [Option.bind_some, decide_eq_true_eq]
  by_cases c : (l.length : Int) > 1048576
  · simp only [if_pos c]; exact Ev.now _
  simp only [if_neg c]
  have hl : l.length ≤ 1048576 := by omega
  obtain ⟨x, y, z, u, v, w, e0, sx, sy, sz, su, sv, sw⟩ := drawKnow_ex l hl
  obtain ⟨p, q, e1, hp, hq⟩ := pair_ex l hl
  obtain ⟨kn, kr, ks, e2, hk⟩ := drawKnows_ex l hl
  obtain ⟨dr, ds, e3⟩ := drawDot_ex l hl
  have L (a b c : Int) : ([a, b, c] : List Int).length ≤ 140737488351232 := by simp
  have mM : knowMaxL [x, y, z] [u, v, w] = [mx x u, mx y v, mx z w] := by
    unfold knowMaxL; rw [if_pos (know_sm sx sy sz), if_pos (know_sm su sv sw), rd0, rd0, rd1, rd1, rd2, rd2]
  have mM' : knowMaxL [u, v, w] [x, y, z] = [mx x u, mx y v, mx z w] := by
    unfold knowMaxL
    rw [if_pos (know_sm su sv sw), if_pos (know_sm sx sy sz), rd0, rd0, rd1, rd1, rd2, rd2]
    congr 1
    · unfold mx; (repeat' split) <;> omega
    · congr 1
      · unfold mx; (repeat' split) <;> omega
      · congr 1; unfold mx; (repeat' split) <;> omega
  have mN : knowMinL [x, y, z] [u, v, w] = [mn x u, mn y v, mn z w] := by
    unfold knowMinL; rw [if_pos (know_sm sx sy sz), if_pos (know_sm su sv sw), rd0, rd0, rd1, rd1, rd2, rd2]
  have M1 := mx_sm sx su
  have M2 := mx_sm sy sv
  have M3 := mx_sm sz sw
  have N1 := mn_sm sx su
  have N2 := mn_sm sy sv
  have N3 := mn_sm sz sw
  have bM1 : x ≤ mx x u ∧ u ≤ mx x u := by unfold mx; split <;> omega
  have bM2 : y ≤ mx y v ∧ v ≤ mx y v := by unfold mx; split <;> omega
  have bM3 : z ≤ mx z w ∧ w ≤ mx z w := by unfold mx; split <;> omega
  have bN1 : mn x u ≤ x ∧ mn x u ≤ u := by unfold mn; split <;> omega
  have bN2 : mn y v ≤ y ∧ mn y v ≤ v := by unfold mn; split <;> omega
  have bN3 : mn z w ≤ z ∧ mn z w ≤ w := by unfold mn; split <;> omega
  have hgood := fun s hs => @dot_good x y z u v w sx sy sz su sv sw s hs
  have hD := dots3 sx sy sz M1 M2 M3
  have hE := dots3 su sv sw sx sy sz
  have hin := in3 sx sy sz su sv sw
  have i1 := in_true sx sy sz M1 M2 M3 bM1.1 bM2.1 bM3.1
  have i2 := in_true su sv sw M1 M2 M3 bM1.2 bM2.2 bM3.2
  have i3 := in_true N1 N2 N3 sx sy sz bN1.1 bN2.1 bN3.1
  have i4 := in_true N1 N2 N3 su sv sw bN1.2 bN2.2 bN3.2
  have s0 : sm 0 := by unfold sm; omega
  have i5 := in_true s0 s0 s0 sx sy sz sx.1 sy.1 sz.1
  have hlen : ((dotsL [x, y, z] [mx x u, mx y v, mx z w]).length : Int) = (mx x u - x) + (mx y v - y) + (mx z w - z) := by
    rw [hD, List.length_append, List.length_append, runD_len, runD_len, runD_len]; unfold gap; omega
  have hDl := dotsL_len [x, y, z] [mx x u, mx y v, mx z w]
  have hlenE : ((dotsL [u, v, w] [x, y, z]).length : Int) = ((x - u).toNat + (y - v).toNat + (z - w).toNat : Nat) := by
    rw [hE, List.length_append, List.length_append, runD_len, runD_len, runD_len]; unfold gap; omega
  refine Ev.bind e0 ?_
  refine Ev.bind (impl_KnowMax_ev _ _ (L ..) (L ..)) ?_
  refine Ev.bind (impl_KnowMin_ev _ _ (L ..) (L ..)) ?_
  rw [mM, mN]
  refine Ev.bind (impl_DotsIn_ev _ _ (L ..) (L ..)) ?_
  generalize dotsL [x, y, z] [mx x u, mx y v, mx z w] = D at hlen hDl hgood
  unfold sm at M1 M2 M3 sx sy sz
  refine Ev.step (fun k => rfl) ?_
  simp only [laws_FnKnows.l0, len3, if_pos (show (0 : Int) < 3 by omega), if_pos (show (0 : Int) ≤ 0 by omega), rd0, w1, wi (n := 0 + mx x u) (by omega), wi (n := 0 + mx x u - x) (by omega)]
  refine Ev.step (fun k => rfl) ?_
  simp only [laws_FnKnows.l0, len3, if_pos (show (1 : Int) < 3 by omega), if_pos (show (0 : Int) ≤ 1 by omega), rd1, w2, wi (n := 0 + mx x u - x + mx y v) (by omega), wi (n := 0 + mx x u - x + mx y v - y) (by omega)]
  refine Ev.step (fun k => rfl) ?_
  simp only [laws_FnKnows.l0, len3, if_pos (show (2 : Int) < 3 by omega), if_pos (show (0 : Int) ≤ 2 by omega), rd2, w3, wi (n := 0 + mx x u - x + mx y v - y + mx z w) (by omega), wi (n := 0 + mx x u - x + mx y v - y + mx z w - z) (by omega)]
  refine Ev.step (fun k => rfl) ?_
  simp only [laws_FnKnows.l0, len3, if_neg (show ¬ (3 : Int) < 3 by omega)]
  rw [show 0 + mx x u - x + mx y v - y + mx z w - z = (D.length : Int) by omega]
  refine fnKnows_l1 l _ _ _ _ D _ (by omega) (L ..) (L ..) hgood ?_ D.length 0 (by omega)
  refine Ev.step (fun k => rfl) ?_
  simp only [laws_FnKnows.l1, if_neg (show ¬ (D.length : Int) < (D.length : Int) by omega)]
  refine Ev.bind e1 (Ev.bind e2 (Ev.bind e3 ?_))
  refine Ev.bind (impl_KnowIn_ev _ _ (L ..) (L ..)) ?_
  simp only [i1, if_true]
  refine Ev.bind (impl_KnowIn_ev _ _ (L ..) (L ..)) ?_
  simp only [i2, if_true]
  refine Ev.bind (impl_KnowIn_ev _ _ (L ..) (L ..)) ?_
  simp only [i3, if_true]
  refine Ev.bind (impl_KnowIn_ev _ _ (L ..) (L ..)) ?_
  simp only [i4, if_true]
  refine Ev.bind (impl_KnowMax_ev _ _ (L ..) (L ..)) ?_
  rw [mM']
  refine Ev.bind (sameInts_ev _ (L ..)) ?_
  simp only [if_true]
  refine Ev.bind (impl_KnowIn_ev _ _ (L ..) (L ..)) ?_
  refine Ev.bind (impl_DotsIn_ev _ _ (L ..) (L ..)) ?_
  have hq2 : (knowInB [x, y, z] [u, v, w] == (((dotsL [u, v, w] [x, y, z]).length : Int) == 0)) = true := by
    rw [hin, hlenE]
    by_cases c1 : x > u
    · rw [if_pos c1]; simp; omega
    · rw [if_neg c1]
      by_cases c2 : y > v
      · rw [if_pos c2]; simp; omega
      · rw [if_neg c2]
        by_cases c3 : z > w
        · rw [if_pos c3]; simp; omega
        · rw [if_neg c3]; simp; omega
  simp only [if_pos hq2]
  have hp' : p.length ≤ 140737488351232 := by omega
  have hq' : q.length ≤ 140737488351232 := by omega
  refine Ev.bind (impl_KnowIn_ev _ _ hp' hq') (Ev.bind (spec_KnowIn_ev _ _ hp' hq') ?_)
  simp only [beq_self_eq_true, if_true]
  refine Ev.bind (impl_Knows_ev kn kr ks (by omega)) (Ev.bind (spec_Knows_ev kn kr ks (by omega)) ?_)
  simp only [beq_self_eq_true, if_true, impl_DotOk_eq, spec_DotOk_eq, Option.bind_some]
  have lM : (knowMaxL p q).length ≤ 140737488351232 := by unfold knowMaxL; (repeat' split) <;> simp
  have lN : (knowMinL p q).length ≤ 140737488351232 := by unfold knowMinL; (repeat' split) <;> simp
  refine Ev.bind (impl_KnowMax_ev _ _ hp' hq') (Ev.bind (spec_KnowMax_ev _ _ hp' hq') (Ev.bind (sameInts_ev _ lM) ?_))
  simp only [if_true]
  refine Ev.bind (impl_KnowMin_ev _ _ hp' hq') (Ev.bind (spec_KnowMin_ev _ _ hp' hq') (Ev.bind (sameInts_ev _ lN) ?_))
  simp only [if_true]
  refine Ev.bind (impl_KnowOk_ev _ hp') (Ev.bind (spec_KnowOk_ev _ hp') ?_)
  simp only [beq_self_eq_true, if_true, impl_KnowNew.f, if_pos (show 3 ≤ 35184372088832 by omega), Option.bind_some]
  refine Ev.bind (impl_KnowIn_ev _ _ (by simp) (L ..)) ?_
  rw [show (List.replicate 3 0 : List Int) = [0, 0, 0] from rfl, i5]
  simp only [if_true]
  have := dotsL_len p q
  exact Ev.bind (impl_DotsIn_ev _ _ hp' hq') (Ev.bind (spec_DotsIn_ev _ _ hp' hq') (Ev.bind (sameDots_ev _ (by omega)) (Ev.now _)))
end Go.Proofs.Ytmohbiagcbfkpaa.Pure
