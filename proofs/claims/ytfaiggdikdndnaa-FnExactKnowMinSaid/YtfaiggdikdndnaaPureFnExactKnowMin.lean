/- The program's KnowMin tells of every two lists of numbers what the reference's KnowMin tells, in new memory, and leaves both as they were.
No condition beyond those of the given row. -/
import Derived.Test.YtfaiggdikdndnaaPFnExactKnowMinx0
import Derived.Test.YtfaiggdikdndnaaPFnExactKnowMinx1
import Derived.Test.YtfaiggdikdndnaaPFnExactKnowMinx2
import Derived.Test.YtfaiggdikdndnaaPFnExactKnowMinx3
import Derived.Test.YtfaiggdikdndnaaStFnExactKnowMin
import Derived.Test.YtfaiggdikdndnaaPlain
namespace Go.Proofs.Ytfaiggdikdndnaa.Pure
open Go.RowKit Go.Proofs.Ytfaiggdikdndnaa.PFnExactKnowMin Go.Proofs.Ytfaiggdikdndnaa.Plain Go.Proofs.YtfaiggdikdndnaaW.PrintWords Go.Proofs.YtfaiggdikdndnaaW.PrintLast Go.Proofs.YtfaiggdikdndnaaW.PrintMore

/-- Three numbers of 0 to 1000. -/
def knowB (l : List Int) : Bool := (l.all fun x => inB x 0 1000) && ((l.length : Int) == 3)
theorem all_drop (l : List Int) (i : Nat) (h : i < l.length) : ((l.drop i).all fun x => inB x 0 1000) = (inB (rd l (i : Int)) 0 1000 && (l.drop (i + 1)).all fun x => inB x 0 1000) := by
  rw [drop_rd l i h]; rfl

theorem spec_in (x lo hi : Int) : spec_l01In.f x lo hi = some (inB x lo hi) := in_ite x lo hi

theorem spec_KnowOk_l0 (l : List Int) (hl : l.length ≤ 140737488351232) : ∀ d i, i + d = l.length → Ev (fun k => spec_KnowOk.l0 k l (i : Int)) (((l.drop i).all fun x => inB x 0 1000) && ((l.length : Int) == 3))
  | 0, i, hi => by
    refine Ev.step (fun k => rfl) ?_
    simp only [spec_KnowOk.l0, if_neg (show ¬ (i : Int) < (l.length : Int) by omega), List.drop_eq_nil_of_le (show l.length ≤ i by omega), List.all_nil, Bool.true_and]
    exact Ev.now _
  | d + 1, i, hi => by
    refine Ev.step (fun k => rfl) ?_
    have ih := spec_KnowOk_l0 l hl d (i + 1) (by omega)
    simp only [spec_KnowOk.l0, if_pos (show (i : Int) < (l.length : Int) by omega), if_pos (show (0 : Int) ≤ (i : Int) by omega), wr i (by omega), spec_in, Option.bind_some, all_drop l i (by omega)]
    cases inB (rd l (i : Int)) 0 1000
    · exact Ev.now _
    · exact ih
theorem spec_KnowOk_ev (l : List Int) (hl : l.length ≤ 140737488351232) : Ev (fun k => spec_KnowOk.f k l) (knowB l) := spec_KnowOk_l0 l hl l.length 0 (by omega)

theorem know3 {l : List Int} (h : knowB l = true) : ∃ x y z, l = [x, y, z] ∧ (0 ≤ x ∧ x ≤ 1000) ∧ (0 ≤ y ∧ y ≤ 1000) ∧ (0 ≤ z ∧ z ≤ 1000) := by
  unfold knowB at h
  simp only [Bool.and_eq_true, beq_iff_eq] at h
  obtain ⟨h1, h2⟩ := h
  match l, h2 with
  | [x, y, z], _ =>
    simp [inB_true] at h1
    exact ⟨x, y, z, rfl, h1⟩
  | [], h => simp at h
  | [_], h => simp at h
  | [_, _], h => simp at h
  | _ :: _ :: _ :: _ :: _, h => simp at h; omega
theorem rd0 (x y z : Int) : rd [x, y, z] 0 = x := by simp [rd]
theorem rd1 (x y z : Int) : rd [x, y, z] 1 = y := by simp [rd]
theorem rd2 (x y z : Int) : rd [x, y, z] 2 = z := by simp [rd]
theorem w1 : wrap64 (0 + 1) = 1 := by rw [wi (by omega)]; rfl
theorem w2 : wrap64 (1 + 1) = 2 := by rw [wi (by omega)]; rfl
theorem w3 : wrap64 (2 + 1) = 3 := by rw [wi (by omega)]; rfl
theorem len3 (x y z : Int) : (([x, y, z] : List Int).length : Int) = 3 := by simp

/-- Of each number the one that mn picks; nothing where one list is not right. -/
def knowMinL (a b : List Int) : List Int := if knowB a = true then (if knowB b = true then [mn (rd a 0) (rd b 0), mn (rd a 1) (rd b 1), mn (rd a 2) (rd b 2)] else []) else []

theorem spec_KnowMin_l0 (a b out : List Int) (x u : Int) (i j : Int) (h1 : i < (a.length : Int)) (h0 : 0 ≤ i) (h2 : i < (b.length : Int)) (ha : rd a i = x) (hb : rd b i = u) (hj : wrap64 (i + 1) = j) (ho : out.length < 1000) (r : List Int) (h : Ev (fun k => spec_KnowMin.l0 k a b (out ++ [mn x u]) j) r) : Ev (fun k => spec_KnowMin.l0 k a b out i) r := by
  refine Ev.step (fun k => rfl) ?_
  simp only [spec_KnowMin.l0, if_pos h1, if_pos h0, if_pos h2, ha, hb, hj, if_pos (show out.length < 17592186044416 by omega)]
  by_cases c : u < x
  · simp only [if_pos c]
    rw [show mn x u = u by unfold mn; split <;> omega] at h; exact h
  · simp only [if_neg c]
    rw [show mn x u = x by unfold mn; split <;> omega] at h; exact h
theorem spec_KnowMin_ev (a b : List Int) (ha : a.length ≤ 140737488351232) (hb : b.length ≤ 140737488351232) : Ev (fun k => spec_KnowMin.f k a b) (knowMinL a b) := by
  unfold spec_KnowMin.f knowMinL
  simp only [Option.bind_some]
  refine Ev.bind (spec_KnowOk_ev a ha) ?_
  by_cases ka : knowB a = true
  · simp only [if_pos ka]
    refine Ev.bind (spec_KnowOk_ev b hb) ?_
    refine Ev.step (fun k => rfl) ?_
    by_cases kb : knowB b = true
    · simp only [spec_KnowMin.j0, kb, Bool.not_true, Bool.false_eq_true, if_false, if_true]
      obtain ⟨x, y, z, rfl, -, -, -⟩ := know3 ka
      obtain ⟨u, v, w, rfl, -, -, -⟩ := know3 kb
      refine spec_KnowMin_l0 _ _ _ x u 0 1 (by simp) (by omega) (by simp) (rd0 ..) (rd0 ..) w1 (by simp) _ ?_
      refine spec_KnowMin_l0 _ _ _ y v 1 2 (by simp) (by omega) (by simp) (rd1 ..) (rd1 ..) w2 (by simp) _ ?_
      refine spec_KnowMin_l0 _ _ _ z w 2 3 (by simp) (by omega) (by simp) (rd2 ..) (rd2 ..) w3 (by simp) _ ?_
      refine Ev.step (fun k => rfl) ?_
      simp only [spec_KnowMin.l0, len3, if_neg (show ¬ (3 : Int) < 3 by omega), rd0, rd1, rd2, List.nil_append, List.cons_append]
      exact Ev.now _
    · simp only [spec_KnowMin.j0, Bool.eq_false_iff.2 kb, Bool.not_false, if_true, Bool.false_eq_true, if_false]
      exact Ev.now _
  · simp only [if_neg ka]
    refine Ev.step (fun k => rfl) ?_
    simp only [spec_KnowMin.j0, if_true]
    exact Ev.now _

theorem impl_in (x lo hi : Int) : impl_within.f x lo hi = some (inB x lo hi) := in_ite x lo hi

theorem impl_KnowOk_l0 (l : List Int) (hl : l.length ≤ 140737488351232) : ∀ d i, i + d = l.length → Ev (fun k => impl_KnowOk.l0 k l l (l.length : Int) (i : Int)) (((l.drop i).all fun x => inB x 0 1000) && ((l.length : Int) == 3))
  | 0, i, hi => by
    refine Ev.step (fun k => rfl) ?_
    simp only [impl_KnowOk.l0, if_neg (show ¬ (i : Int) < (l.length : Int) by omega), List.drop_eq_nil_of_le (show l.length ≤ i by omega), List.all_nil, Bool.true_and]
    exact Ev.now _
  | d + 1, i, hi => by
    refine Ev.step (fun k => rfl) ?_
    have ih := impl_KnowOk_l0 l hl d (i + 1) (by omega)
    simp only [impl_KnowOk.l0, if_pos (show (i : Int) < (l.length : Int) by omega), if_pos (show (0 : Int) ≤ (i : Int) by omega), wr i (by omega), impl_in, Option.bind_some, all_drop l i (by omega)]
    cases inB (rd l (i : Int)) 0 1000
    · exact Ev.now _
    · exact ih
theorem impl_KnowOk_ev (l : List Int) (hl : l.length ≤ 140737488351232) : Ev (fun k => impl_KnowOk.f k l) (knowB l) := impl_KnowOk_l0 l hl l.length 0 (by omega)

theorem copyInts_eq (l : List Int) (h : l.length < 1000) : impl_copyInts.f l = some l := by
  unfold impl_copyInts.f
  simp only [Option.bind_some, List.length_nil, List.nil_append, if_pos (show 0 + l.length < 17592186044416 by omega)]

theorem impl_KnowMin_l0 (a a' b : List Int) (i j : Int) (h0 : 0 ≤ i) (h3 : i < 3) (h1 : (a.length : Int) = 3) (h2 : (b.length : Int) = 3) (hs : a.set i.toNat (mn (rd a i) (rd b i)) = a') (hj : wrap64 (i + 1) = j) (r : List Int) (h : Ev (fun k => impl_KnowMin.l0 k a' b 3 j) r) : Ev (fun k => impl_KnowMin.l0 k a b 3 i) r := by
  refine Ev.step (fun k => rfl) ?_
  simp only [impl_KnowMin.l0, h1, h2, if_pos h3, if_pos h0, hs, hj]
  exact h
theorem impl_KnowMin_ev (a b : List Int) (ha : a.length ≤ 140737488351232) (hb : b.length ≤ 140737488351232) : Ev (fun k => impl_KnowMin.f k a b) (knowMinL a b) := by
  unfold impl_KnowMin.f knowMinL
  refine Ev.bind (impl_KnowOk_ev a ha) ?_
  by_cases ka : knowB a = true
  · simp only [if_pos ka]
    refine Ev.bind (impl_KnowOk_ev b hb) ?_
    refine Ev.step (fun k => rfl) ?_
    by_cases kb : knowB b = true
    · simp only [impl_KnowMin.j0, kb, Bool.not_true, Bool.false_eq_true, if_false, if_true]
      obtain ⟨x, y, z, rfl, -, -, -⟩ := know3 ka
      obtain ⟨u, v, w, rfl, -, -, -⟩ := know3 kb
      simp only [copyInts_eq _ (show ([x, y, z] : List Int).length < 1000 by simp), Option.bind_some, len3]
      refine impl_KnowMin_l0 _ [mn x u, y, z] _ 0 1 (by omega) (by omega) (by simp) (by simp) (by rw [rd0, rd0]; rfl) w1 _ ?_
      refine impl_KnowMin_l0 _ [mn x u, mn y v, z] _ 1 2 (by omega) (by omega) (by simp) (by simp) (by rw [rd1, rd1]; rfl) w2 _ ?_
      refine impl_KnowMin_l0 _ [mn x u, mn y v, mn z w] _ 2 3 (by omega) (by omega) (by simp) (by simp) (by rw [rd2, rd2]; rfl) w3 _ ?_
      refine Ev.step (fun k => rfl) ?_
      simp only [impl_KnowMin.l0, if_neg (show ¬ (3 : Int) < 3 by omega), rd0, rd1, rd2]
      exact Ev.now _
    · simp only [impl_KnowMin.j0, Bool.eq_false_iff.2 kb, Bool.not_false, if_true, Bool.false_eq_true, if_false]
      exact Ev.now _
  · simp only [if_neg ka]
    refine Ev.step (fun k => rfl) ?_
    simp only [impl_KnowMin.j0, if_true]
    exact Ev.now _

theorem toIntS_l0 (l : List Int) (hl : l.length ≤ 140737488351232) : ∀ d i, i + d = l.length → Ev (fun k => laws_toIntS.l0 k l (l.take i ++ List.replicate d 0) (i : Int)) l
  | 0, i, hi => by
    refine Ev.step (fun k => rfl) ?_
    simp only [laws_toIntS.l0, if_neg (show ¬ (i : Int) < (l.length : Int) by omega)]
    rw [show l.take i ++ List.replicate 0 0 = l by rw [List.take_of_length_le (by omega)]; simp]
    exact Ev.now _
  | d + 1, i, hi => by
    refine Ev.step (fun k => rfl) ?_
    have ih := toIntS_l0 l hl d (i + 1) (by omega)
    have e : (l.take i ++ List.replicate (d + 1) 0).set (i : Int).toNat (rd l (i : Int)) = l.take (i + 1) ++ List.replicate d 0 := take_set l 0 i d (by omega)
    simp only [laws_toIntS.l0, if_pos (show (i : Int) < (l.length : Int) by omega), if_pos (show (0 : Int) ≤ (i : Int) by omega), wr i (by omega),
      if_pos (show (i : Int) < ((l.take i ++ List.replicate (d + 1) 0).length : Int) by rw [List.length_append, List.length_take, List.length_replicate]; omega), e]
    exact ih
theorem toIntS_ev (l : List Int) (hl : l.length ≤ 17592186043904) : Ev (fun k => laws_toIntS.f k l) l := by
  unfold laws_toIntS.f
  simp only [if_pos (show (0 : Int) ≤ (l.length : Int) by omega), Int.toNat_natCast, if_pos (show l.length ≤ 35184372088832 by omega)]
  exact toIntS_l0 l (by omega) l.length 0 (by omega)

theorem eqIntS_l0 (l : List Int) (hl : l.length ≤ 140737488351232) : ∀ d i, i + d = l.length → Ev (fun k => laws_eqIntS.l0 k l l (i : Int)) true
  | 0, i, hi => by
    refine Ev.step (fun k => rfl) ?_
    simp only [laws_eqIntS.l0, if_neg (show ¬ (i : Int) < (l.length : Int) by omega)]
    exact Ev.now _
  | d + 1, i, hi => by
    refine Ev.step (fun k => rfl) ?_
    simp only [laws_eqIntS.l0, if_pos (show (i : Int) < (l.length : Int) by omega), if_pos (show (0 : Int) ≤ (i : Int) by omega), if_true, wr i (by omega)]
    exact eqIntS_l0 l hl d (i + 1) (by omega)
theorem eqIntS_ev (l : List Int) (hl : l.length ≤ 140737488351232) : Ev (fun k => laws_eqIntS.f k l l) true := by
  unfold laws_eqIntS.f
  simp only [if_true]
  exact eqIntS_l0 l hl l.length 0 (by omega)

/-- n numbers from m on. -/
def iota : Nat → Int → List Int
  | 0, _ => []
  | n + 1, m => m :: iota n (m + 1)
theorem iota_len : ∀ n m, (iota n m).length = n
  | 0, _ => rfl
  | n + 1, m => by simp [iota, iota_len n]
theorem iota_snoc : ∀ n m, iota (n + 1) m = iota n m ++ [m + n]
  | 0, m => by simp [iota]
  | n + 1, m => by
    rw [show iota (n + 1 + 1) m = m :: iota (n + 1) (m + 1) from rfl, iota_snoc n (m + 1)]
    simp [iota]; omega
theorem iota_rd : ∀ n m (i : Nat), i < n → rd (iota n m) (i : Int) = m + i
  | 0, _, i, h => by omega
  | n + 1, m, 0, _ => by simp [iota, rd]
  | n + 1, m, i + 1, h => by
    have := iota_rd n (m + 1) i (by omega)
    simp [iota, rd] at this ⊢
    omega
theorem markIntS_l0 (l : List Int) (hl : l.length ≤ 140737488351232) (m : Int) (hm : 0 ≤ m ∧ m ≤ 1000000000000) : ∀ d i, i + d = l.length → Ev (fun k => laws_markIntS.l0 k (iota i m ++ l.drop i) (m + i) (i : Int)) (m + (l.length : Int), iota l.length m)
  | 0, i, hi => by
    refine Ev.step (fun k => rfl) ?_
    have e : (iota i m ++ l.drop i) = iota l.length m := by rw [List.drop_eq_nil_of_le (by omega), show i = l.length by omega, List.append_nil]
    simp only [laws_markIntS.l0, e, iota_len, if_neg (show ¬ (i : Int) < (l.length : Int) by omega)]
    rw [show (i : Int) = (l.length : Int) by omega]
    exact Ev.now _
  | d + 1, i, hi => by
    refine Ev.step (fun k => rfl) ?_
    have ih := markIntS_l0 l hl m hm d (i + 1) (by omega)
    have hlen : (iota i m ++ l.drop i).length = l.length := by rw [List.length_append, iota_len, List.length_drop]; omega
    have e : (iota i m ++ l.drop i).set (i : Int).toNat (m + i) = iota (i + 1) m ++ l.drop (i + 1) := by
      rw [Int.toNat_natCast, List.set_append_right _ _ (by rw [iota_len]; omega), iota_len, Nat.sub_self, drop_rd l i (by omega), List.set_cons_zero, iota_snoc, List.append_assoc]
      rfl
    simp only [laws_markIntS.l0, hlen, if_pos (show (i : Int) < (l.length : Int) by omega), if_pos (show (0 : Int) ≤ (i : Int) by omega), wr i (by omega), e, wi (n := m + i + 1) (by omega)]
    rw [show m + (i : Int) + 1 = m + ((i + 1 : Nat) : Int) by omega]
    exact ih
theorem markIntS_ev (l : List Int) (hl : l.length ≤ 140737488351232) (m : Int) (hm : 0 ≤ m ∧ m ≤ 1000000000000) : Ev (fun k => laws_markIntS.f k l m) (m + (l.length : Int), iota l.length m) := by
  have := markIntS_l0 l hl m hm l.length 0 (by omega)
  simpa [laws_markIntS.f, iota] using this

theorem heldIntS_l0 (n : Nat) (hn : n ≤ 140737488351232) (m : Int) (hm : 0 ≤ m ∧ m ≤ 1000000000000) : ∀ d i, i + d = n → Ev (fun k => laws_heldIntS.l0 k (iota n m) (m + i) (i : Int)) (m + (n : Int))
  | 0, i, hi => by
    refine Ev.step (fun k => rfl) ?_
    simp only [laws_heldIntS.l0, iota_len, if_neg (show ¬ (i : Int) < (n : Int) by omega)]
    rw [show (i : Int) = (n : Int) by omega]
    exact Ev.now _
  | d + 1, i, hi => by
    refine Ev.step (fun k => rfl) ?_
    have ih := heldIntS_l0 n hn m hm d (i + 1) (by omega)
    simp only [laws_heldIntS.l0, iota_len, if_pos (show (i : Int) < (n : Int) by omega), if_pos (show (0 : Int) ≤ (i : Int) by omega), wr i (by omega), if_pos (iota_rd n m i (by omega)), wi (n := m + i + 1) (by omega)]
    rw [show m + (i : Int) + 1 = m + ((i + 1 : Nat) : Int) by omega]
    exact ih
theorem heldIntS_ev (n : Nat) (hn : n ≤ 140737488351232) (m : Int) (hm : 0 ≤ m ∧ m ≤ 1000000000000) : Ev (fun k => laws_heldIntS.f k (iota n m) m) (m + (n : Int)) := by
  have := heldIntS_l0 n hn m hm n 0 (by omega)
  simpa [laws_heldIntS.f] using this

theorem knowMin_len (a b : List Int) : (knowMinL a b).length ≤ 3 := by
  unfold knowMinL
  split <;> (try split) <;> simp
theorem FnExactKnowMin : laws_FnExactKnowMin.Pure0 := by
  intro a b _ _
  refine Ev.rounds ?_
  unfold laws_FnExactKnowMin.f
  by_cases h : (a.length : Int) > 1048576
  · simp only [if_pos h]; exact Ev.now _
  by_cases h' : (b.length : Int) > 1048576
  · simp only [if_neg h, if_pos h']; exact Ev.now _
  simp only [if_neg h, if_neg h']
  have ta := toIntS_ev a (by omega)
  have tb := toIntS_ev b (by omega)
  have hl := knowMin_len a b
  have eq := eqIntS_ev (knowMinL a b) (by omega)
  have im := impl_KnowMin_ev a b (by omega) (by omega)
  refine Ev.bind ta (Ev.bind tb (Ev.bind (spec_KnowMin_ev a b (by omega) (by omega)) (Ev.bind ta (Ev.bind tb (Ev.bind im (Ev.bind eq ?_))))))
  simp only [if_true]
  refine Ev.bind ta (Ev.bind (eqIntS_ev a (by omega)) ?_)
  simp only [if_true]
  refine Ev.bind tb (Ev.bind (eqIntS_ev b (by omega)) ?_)
  simp only [if_true]
  refine Ev.bind (markIntS_ev a (by omega) 1 (by omega)) (Ev.bind (markIntS_ev b (by omega) _ (by simp only; omega)) ?_)
  simp only [if_neg (show ¬ (1 + (a.length : Int) + (b.length : Int)) < 0 by omega)]
  refine Ev.bind eq ?_
  refine Ev.step (fun k => rfl) ?_
  simp only [laws_FnExactKnowMin.j0, Bool.not_true, Bool.false_eq_true, if_false]
  have hm := markIntS_ev (knowMinL a b) (by omega) 1 (by omega)
  have hh := heldIntS_ev (knowMinL a b).length (by omega) 1 (by omega)
  refine Ev.bind hm (Ev.bind hh ?_)
  simp only [if_neg (show ¬ (1 + ((knowMinL a b).length : Int)) < 0 by omega), if_true]
  refine Ev.bind ta (Ev.bind tb (Ev.bind im (Ev.bind eq ?_)))
  simp only [if_true]
  refine Ev.bind hh ?_
  simp only [if_neg (show ¬ (1 + ((knowMinL a b).length : Int)) < 0 by omega)]
  exact Ev.now _

end Go.Proofs.Ytfaiggdikdndnaa.Pure
