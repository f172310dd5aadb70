/- The program's KnowIn tells of every two lists of numbers what the reference's KnowIn tells, and leaves both as they were.
No condition beyond those of the given row. -/
import Derived.Test.YtfaiggdikdndnaaPFnExactKnowInx0
import Derived.Test.YtfaiggdikdndnaaPFnExactKnowInx1
import Derived.Test.YtfaiggdikdndnaaPFnExactKnowInx2
import Derived.Test.YtfaiggdikdndnaaStFnExactKnowIn
import Derived.Test.YtfaiggdikdndnaaPlain
namespace Go.Proofs.Ytfaiggdikdndnaa.Pure
open Go.RowKit Go.Proofs.Ytfaiggdikdndnaa.PFnExactKnowIn Go.Proofs.Ytfaiggdikdndnaa.Plain Go.Proofs.YtfaiggdikdndnaaW.PrintWords Go.Proofs.YtfaiggdikdndnaaW.PrintLast

/-- Three numbers of 0 to 1000. -/
def knowB (l : List Int) : Bool := (l.all fun x => inB x 0 1000) && ((l.length : Int) == 3)
theorem all_drop (l : List Int) (i : Nat) (h : i < l.length) : ((l.drop i).all fun x => inB x 0 1000) = (inB (rd l (i : Int)) 0 1000 && (l.drop (i + 1)).all fun x => inB x 0 1000) := by
  rw [drop_rd l i h]; rfl

theorem spec_in (x lo hi : Int) : spec_l01In.f x lo hi = some (inB x lo hi) := in_ite x lo hi

theorem spec_KnowOk_l0 (l : List Int) (hl : l.length ≤ 140737488351232) : ∀ d i, i + d = l.length → Ev (fun k => spec_KnowOk.l0 k l (i : Int)) (((l.drop i).all fun x => inB x 0 1000) && ((l.length : Int) == 3))
  | 0, i, hi => by
    refine Ev.step (fun k => rfl) ?_
    simp only [spec_KnowOk.l0, if_neg (show ¬ (i : Int) < (l.length : Int) by omega), List.drop_eq_nil_of_le (show l.length ≤ i by omega), List.all_nil, Bool.true_and]
    exact Ev.now _
  | d + 1, i, hi => by
    refine Ev.step (fun k => rfl) ?_
    have ih := spec_KnowOk_l0 l hl d (i + 1) (by omega)
    simp only [spec_KnowOk.l0, if_pos (show (i : Int) < (l.length : Int) by omega), if_pos (show (0 : Int) ≤ (i : Int) by omega), wr i (by omega), spec_in, Option.bind_some, all_drop l i (by omega)]
    cases inB (rd l (i : Int)) 0 1000
    · exact Ev.now _
    · exact ih
theorem spec_KnowOk_ev (l : List Int) (hl : l.length ≤ 140737488351232) : Ev (fun k => spec_KnowOk.f k l) (knowB l) := spec_KnowOk_l0 l hl l.length 0 (by omega)

theorem know3 {l : List Int} (h : knowB l = true) : ∃ x y z, l = [x, y, z] ∧ (0 ≤ x ∧ x ≤ 1000) ∧ (0 ≤ y ∧ y ≤ 1000) ∧ (0 ≤ z ∧ z ≤ 1000) := by
  unfold knowB at h
  simp only [Bool.and_eq_true, beq_iff_eq] at h
  obtain ⟨h1, h2⟩ := h
  match l, h2 with
  | [x, y, z], _ =>
    simp [inB_true] at h1
    exact ⟨x, y, z, rfl, h1⟩
  | [], h => simp at h
  | [_], h => simp at h
  | [_, _], h => simp at h
  | _ :: _ :: _ :: _ :: _, h => simp at h; omega
theorem rd0 (x y z : Int) : rd [x, y, z] 0 = x := by simp [rd]
theorem rd1 (x y z : Int) : rd [x, y, z] 1 = y := by simp [rd]
theorem rd2 (x y z : Int) : rd [x, y, z] 2 = z := by simp [rd]
theorem w1 : wrap64 (0 + 1) = 1 := by rw [wi (by omega)]; rfl
theorem w2 : wrap64 (1 + 1) = 2 := by rw [wi (by omega)]; rfl
theorem w3 : wrap64 (2 + 1) = 3 := by rw [wi (by omega)]; rfl
theorem len3 (x y z : Int) : (([x, y, z] : List Int).length : Int) = 3 := by simp

/-- Both right, and each number of a at most that of b. -/
def knowInB (a b : List Int) : Bool :=
  if knowB a = true then (if knowB b = true then (if rd a 0 > rd b 0 then false else if rd a 1 > rd b 1 then false else if rd a 2 > rd b 2 then false else true) else false) else false

theorem spec_KnowIn_ev (a b : List Int) (ha : a.length ≤ 140737488351232) (hb : b.length ≤ 140737488351232) : Ev (fun k => spec_KnowIn.f k a b) (knowInB a b) := by
  unfold spec_KnowIn.f knowInB
  refine Ev.bind (spec_KnowOk_ev a ha) ?_
  by_cases ka : knowB a = true
  · simp only [if_pos ka]
    refine Ev.bind (spec_KnowOk_ev b hb) ?_
    refine Ev.step (fun k => rfl) ?_
    by_cases kb : knowB b = true
    · simp only [spec_KnowIn.j0, kb, Bool.not_true, Bool.false_eq_true, if_false, if_true]
      obtain ⟨x, y, z, rfl, -, -, -⟩ := know3 ka
      obtain ⟨u, v, w, rfl, -, -, -⟩ := know3 kb
      simp only [rd0, rd1, rd2]
      refine Ev.step (fun k => rfl) ?_
      simp only [spec_KnowIn.l0, len3, rd0, w1, if_pos (show (0 : Int) < 3 by omega), if_pos (show (0 : Int) ≤ 0 by omega)]
      by_cases c0 : x > u
      · simp only [if_pos c0]; exact Ev.now _
      simp only [if_neg c0]
      refine Ev.step (fun k => rfl) ?_
      simp only [spec_KnowIn.l0, len3, rd1, w2, if_pos (show (1 : Int) < 3 by omega), if_pos (show (0 : Int) ≤ 1 by omega)]
      by_cases c1 : y > v
      · simp only [if_pos c1]; exact Ev.now _
      simp only [if_neg c1]
      refine Ev.step (fun k => rfl) ?_
      simp only [spec_KnowIn.l0, len3, rd2, w3, if_pos (show (2 : Int) < 3 by omega), if_pos (show (0 : Int) ≤ 2 by omega)]
      by_cases c2 : z > w
      · simp only [if_pos c2]; exact Ev.now _
      simp only [if_neg c2]
      refine Ev.step (fun k => rfl) ?_
      simp only [spec_KnowIn.l0, len3, if_neg (show ¬ (3 : Int) < 3 by omega)]
      exact Ev.now _
    · simp only [spec_KnowIn.j0, Bool.eq_false_iff.2 kb, Bool.not_false, if_true, Bool.false_eq_true, if_false]
      exact Ev.now _
  · simp only [if_neg ka]
    refine Ev.step (fun k => rfl) ?_
    simp only [spec_KnowIn.j0, if_true]
    exact Ev.now _

theorem impl_in (x lo hi : Int) : impl_within.f x lo hi = some (inB x lo hi) := in_ite x lo hi

theorem impl_KnowOk_l0 (l : List Int) (hl : l.length ≤ 140737488351232) : ∀ d i, i + d = l.length → Ev (fun k => impl_KnowOk.l0 k l l (l.length : Int) (i : Int)) (((l.drop i).all fun x => inB x 0 1000) && ((l.length : Int) == 3))
  | 0, i, hi => by
    refine Ev.step (fun k => rfl) ?_
    simp only [impl_KnowOk.l0, if_neg (show ¬ (i : Int) < (l.length : Int) by omega), List.drop_eq_nil_of_le (show l.length ≤ i by omega), List.all_nil, Bool.true_and]
    exact Ev.now _
  | d + 1, i, hi => by
    refine Ev.step (fun k => rfl) ?_
    have ih := impl_KnowOk_l0 l hl d (i + 1) (by omega)
    simp only [impl_KnowOk.l0, if_pos (show (i : Int) < (l.length : Int) by omega), if_pos (show (0 : Int) ≤ (i : Int) by omega), wr i (by omega), impl_in, Option.bind_some, all_drop l i (by omega)]
    cases inB (rd l (i : Int)) 0 1000
    · exact Ev.now _
    · exact ih
theorem impl_KnowOk_ev (l : List Int) (hl : l.length ≤ 140737488351232) : Ev (fun k => impl_KnowOk.f k l) (knowB l) := impl_KnowOk_l0 l hl l.length 0 (by omega)

theorem impl_KnowIn_ev (a b : List Int) (ha : a.length ≤ 140737488351232) (hb : b.length ≤ 140737488351232) : Ev (fun k => impl_KnowIn.f k a b) (knowInB a b) := by
  unfold impl_KnowIn.f knowInB
  refine Ev.bind (impl_KnowOk_ev a ha) ?_
  by_cases ka : knowB a = true
  · simp only [if_pos ka]
    refine Ev.bind (impl_KnowOk_ev b hb) ?_
    refine Ev.step (fun k => rfl) ?_
    by_cases kb : knowB b = true
    · simp only [impl_KnowIn.j0, kb, Bool.not_true, Bool.false_eq_true, if_false, if_true]
      obtain ⟨x, y, z, rfl, -, -, -⟩ := know3 ka
      obtain ⟨u, v, w, rfl, -, -, -⟩ := know3 kb
      simp only [rd0, rd1, rd2]
      refine Ev.step (fun k => rfl) ?_
      simp only [impl_KnowIn.l0, len3, rd0, w1, if_pos (show (0 : Int) < 3 by omega), if_pos (show (0 : Int) ≤ 0 by omega)]
      by_cases c0 : x > u
      · simp only [if_pos c0]; exact Ev.now _
      simp only [if_neg c0]
      refine Ev.step (fun k => rfl) ?_
      simp only [impl_KnowIn.l0, len3, rd1, w2, if_pos (show (1 : Int) < 3 by omega), if_pos (show (0 : Int) ≤ 1 by omega)]
      by_cases c1 : y > v
      · simp only [if_pos c1]; exact Ev.now _
      simp only [if_neg c1]
      refine Ev.step (fun k => rfl) ?_
      simp only [impl_KnowIn.l0, len3, rd2, w3, if_pos (show (2 : Int) < 3 by omega), if_pos (show (0 : Int) ≤ 2 by omega)]
      by_cases c2 : z > w
      · simp only [if_pos c2]; exact Ev.now _
      simp only [if_neg c2]
      refine Ev.step (fun k => rfl) ?_
      simp only [impl_KnowIn.l0, len3, if_neg (show ¬ (3 : Int) < 3 by omega)]
      exact Ev.now _
    · simp only [impl_KnowIn.j0, Bool.eq_false_iff.2 kb, Bool.not_false, if_true, Bool.false_eq_true, if_false]
      exact Ev.now _
  · simp only [if_neg ka]
    refine Ev.step (fun k => rfl) ?_
    simp only [impl_KnowIn.j0, if_true]
    exact Ev.now _

theorem toIntS_l0 (l : List Int) (hl : l.length ≤ 140737488351232) : ∀ d i, i + d = l.length → Ev (fun k => laws_toIntS.l0 k l (l.take i ++ List.replicate d 0) (i : Int)) l
  | 0, i, hi => by
    refine Ev.step (fun k => rfl) ?_
    simp only [laws_toIntS.l0, if_neg (show ¬ (i : Int) < (l.length : Int) by omega)]
    rw [show l.take i ++ List.replicate 0 0 = l by rw [List.take_of_length_le (by omega)]; simp]
    exact Ev.now _
  | d + 1, i, hi => by
    refine Ev.step (fun k => rfl) ?_
    have ih := toIntS_l0 l hl d (i + 1) (by omega)
    have e : (l.take i ++ List.replicate (d + 1) 0).set (i : Int).toNat (rd l (i : Int)) = l.take (i + 1) ++ List.replicate d 0 := take_set l 0 i d (by omega)
    simp only [laws_toIntS.l0, if_pos (show (i : Int) < (l.length : Int) by omega), if_pos (show (0 : Int) ≤ (i : Int) by omega), wr i (by omega),
      if_pos (show (i : Int) < ((l.take i ++ List.replicate (d + 1) 0).length : Int) by rw [List.length_append, List.length_take, List.length_replicate]; omega), e]
    exact ih
theorem toIntS_ev (l : List Int) (hl : l.length ≤ 17592186043904) : Ev (fun k => laws_toIntS.f k l) l := by
  unfold laws_toIntS.f
  simp only [if_pos (show (0 : Int) ≤ (l.length : Int) by omega), Int.toNat_natCast, if_pos (show l.length ≤ 35184372088832 by omega)]
  exact toIntS_l0 l (by omega) l.length 0 (by omega)

theorem eqIntS_l0 (l : List Int) (hl : l.length ≤ 140737488351232) : ∀ d i, i + d = l.length → Ev (fun k => laws_eqIntS.l0 k l l (i : Int)) true
  | 0, i, hi => by
    refine Ev.step (fun k => rfl) ?_
    simp only [laws_eqIntS.l0, if_neg (show ¬ (i : Int) < (l.length : Int) by omega)]
    exact Ev.now _
  | d + 1, i, hi => by
    refine Ev.step (fun k => rfl) ?_
    simp only [laws_eqIntS.l0, if_pos (show (i : Int) < (l.length : Int) by omega), if_pos (show (0 : Int) ≤ (i : Int) by omega), if_true, wr i (by omega)]
    exact eqIntS_l0 l hl d (i + 1) (by omega)
theorem eqIntS_ev (l : List Int) (hl : l.length ≤ 140737488351232) : Ev (fun k => laws_eqIntS.f k l l) true := by
  unfold laws_eqIntS.f
  simp only [if_true]
  exact eqIntS_l0 l hl l.length 0 (by omega)

theorem FnExactKnowIn : laws_FnExactKnowIn.Pure0 := by
  intro a b _ _
  refine Ev.rounds ?_
  unfold laws_FnExactKnowIn.f
  by_cases h : (a.length : Int) > 1048576
  · simp only [if_pos h]; exact Ev.now _
  by_cases h' : (b.length : Int) > 1048576
  · simp only [if_neg h, if_pos h']; exact Ev.now _
  simp only [if_neg h, if_neg h']
  have ta := toIntS_ev a (by omega)
  have tb := toIntS_ev b (by omega)
  refine Ev.bind ta (Ev.bind tb (Ev.bind (spec_KnowIn_ev a b (by omega) (by omega)) (Ev.bind ta (Ev.bind tb (Ev.bind (impl_KnowIn_ev a b (by omega) (by omega)) ?_)))))
  simp only [bne_self_eq_false, Bool.false_eq_true, if_false]
  refine Ev.bind ta (Ev.bind (eqIntS_ev a (by omega)) ?_)
  simp only [if_true]
  exact Ev.bind tb (Ev.bind (eqIntS_ev b (by omega)) (Ev.now _))

end Go.Proofs.Ytfaiggdikdndnaa.Pure
