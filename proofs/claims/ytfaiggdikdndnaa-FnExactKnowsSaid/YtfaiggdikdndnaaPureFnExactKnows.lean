/- The program's Knows tells of every list of numbers and dot what the reference's Knows tells, and leaves the list as it was.
No condition beyond those of the given row. -/
import Derived.Test.YtfaiggdikdndnaaQFnExactKnowsx0
import Derived.Test.YtfaiggdikdndnaaQFnExactKnowsx1
import Derived.Test.YtfaiggdikdndnaaQFnExactKnowsx2
import Derived.Test.YtfaiggdikdndnaaQFnExactKnowsx3
import Derived.Test.YtfaiggdikdndnaaStFnExactKnows
import Derived.Test.YtfaiggdikdndnaaPlain
namespace Go.Proofs.Ytfaiggdikdndnaa.Pure
open Go.RowKit Go.Proofs.Ytfaiggdikdndnaa.QFnExactKnows Go.Proofs.Ytfaiggdikdndnaa.Plain Go.Proofs.YtfaiggdikdndnaaW.PrintWords Go.Proofs.YtfaiggdikdndnaaW.PrintLast

/-- Three numbers of 0 to 1000. -/
def knowB (l : List Int) : Bool := (l.all fun x => inB x 0 1000) && ((l.length : Int) == 3)
theorem all_drop (l : List Int) (i : Nat) (h : i < l.length) : ((l.drop i).all fun x => inB x 0 1000) = (inB (rd l (i : Int)) 0 1000 && (l.drop (i + 1)).all fun x => inB x 0 1000) := by
  rw [drop_rd l i h]; rfl

theorem spec_in (x lo hi : Int) : spec_l01In.f x lo hi = some (inB x lo hi) := in_ite x lo hi

theorem spec_KnowOk_l0 (l : List Int) (hl : l.length ≤ 140737488351232) : ∀ d i, i + d = l.length → Ev (fun k => spec_KnowOk.l0 k l (i : Int)) (((l.drop i).all fun x => inB x 0 1000) && ((l.length : Int) == 3))
  | 0, i, hi => by
    refine Ev.step (fun k => rfl) ?_
    simp only [spec_KnowOk.l0, if_neg (show ¬ (i : Int) < (l.length : Int) by omega), List.drop_eq_nil_of_le (show l.length ≤ i by omega), List.all_nil, Bool.true_and]
    exact Ev.now _
  | d + 1, i, hi => by
    refine Ev.step (fun k => rfl) ?_
    have ih := spec_KnowOk_l0 l hl d (i + 1) (by omega)
    simp only [spec_KnowOk.l0, if_pos (show (i : Int) < (l.length : Int) by omega), if_pos (show (0 : Int) ≤ (i : Int) by omega), wr i (by omega), spec_in, Option.bind_some, all_drop l i (by omega)]
    cases inB (rd l (i : Int)) 0 1000
    · exact Ev.now _
    · exact ih
theorem spec_KnowOk_ev (l : List Int) (hl : l.length ≤ 140737488351232) : Ev (fun k => spec_KnowOk.f k l) (knowB l) := spec_KnowOk_l0 l hl l.length 0 (by omega)

def dotB (r s : Int) : Bool := if inB r 0 2 = true then inB s 1 1000 else false

theorem spec_DotOk_eq (r s : Int) : spec_DotOk.f r s = some (dotB r s) := by
  unfold spec_DotOk.f dotB
  simp only [spec_in, Option.bind_some]
  split <;> rfl

def knowsB (l : List Int) (r s : Int) : Bool := if knowB l = true then (if dotB r s = true then decide (s ≤ rd l r) else false) else false

theorem spec_Knows_ev (l : List Int) (r s : Int) (hl : l.length ≤ 140737488351232) : Ev (fun k => spec_Knows.f k l r s) (knowsB l r s) := by
  unfold spec_Knows.f knowsB
  refine Ev.bind (spec_KnowOk_ev l hl) ?_
  by_cases ka : knowB l = true
  · simp only [if_pos ka, spec_DotOk_eq, Option.bind_some]
    by_cases kd : dotB r s = true
    · simp only [if_pos kd]
      have h1 : 0 ≤ r ∧ r ≤ 2 := by
        unfold dotB at kd
        by_cases c : inB r 0 2 = true
        · exact inB_true.1 c
        · simp [c] at kd
      have h2 : (l.length : Int) = 3 := by
        unfold knowB at ka
        simp only [Bool.and_eq_true, beq_iff_eq] at ka
        exact ka.2
      simp only [if_pos h1.1, if_pos (show r < (l.length : Int) by omega)]
      exact Ev.now _
    · simp only [if_neg kd]; exact Ev.now _
  · simp only [if_neg ka]; exact Ev.now _

theorem impl_in (x lo hi : Int) : impl_within.f x lo hi = some (inB x lo hi) := in_ite x lo hi

theorem impl_KnowOk_l0 (l : List Int) (hl : l.length ≤ 140737488351232) : ∀ d i, i + d = l.length → Ev (fun k => impl_KnowOk.l0 k l l (l.length : Int) (i : Int)) (((l.drop i).all fun x => inB x 0 1000) && ((l.length : Int) == 3))
  | 0, i, hi => by
    refine Ev.step (fun k => rfl) ?_
    simp only [impl_KnowOk.l0, if_neg (show ¬ (i : Int) < (l.length : Int) by omega), List.drop_eq_nil_of_le (show l.length ≤ i by omega), List.all_nil, Bool.true_and]
    exact Ev.now _
  | d + 1, i, hi => by
    refine Ev.step (fun k => rfl) ?_
    have ih := impl_KnowOk_l0 l hl d (i + 1) (by omega)
    simp only [impl_KnowOk.l0, if_pos (show (i : Int) < (l.length : Int) by omega), if_pos (show (0 : Int) ≤ (i : Int) by omega), wr i (by omega), impl_in, Option.bind_some, all_drop l i (by omega)]
    cases inB (rd l (i : Int)) 0 1000
    · exact Ev.now _
    · exact ih
theorem impl_KnowOk_ev (l : List Int) (hl : l.length ≤ 140737488351232) : Ev (fun k => impl_KnowOk.f k l) (knowB l) := impl_KnowOk_l0 l hl l.length 0 (by omega)

theorem impl_DotOk_eq (r s : Int) : impl_DotOk.f r s = some (dotB r s) := by
  unfold impl_DotOk.f dotB
  simp only [impl_in, Option.bind_some]
  split <;> rfl

theorem impl_Knows_ev (l : List Int) (r s : Int) (hl : l.length ≤ 140737488351232) : Ev (fun k => impl_Knows.f k l r s) (knowsB l r s) := by
  unfold impl_Knows.f knowsB
  refine Ev.bind (impl_KnowOk_ev l hl) ?_
  by_cases ka : knowB l = true
  · simp only [if_pos ka, impl_DotOk_eq, Option.bind_some]
    by_cases kd : dotB r s = true
    · simp only [if_pos kd]
      have h1 : 0 ≤ r ∧ r ≤ 2 := by
        unfold dotB at kd
        by_cases c : inB r 0 2 = true
        · exact inB_true.1 c
        · simp [c] at kd
      have h2 : (l.length : Int) = 3 := by
        unfold knowB at ka
        simp only [Bool.and_eq_true, beq_iff_eq] at ka
        exact ka.2
      simp only [if_pos h1.1, if_pos (show r < (l.length : Int) by omega)]
      exact Ev.now _
    · simp only [if_neg kd]; exact Ev.now _
  · simp only [if_neg ka]; exact Ev.now _

theorem toIntS_l0 (l : List Int) (hl : l.length ≤ 140737488351232) : ∀ d i, i + d = l.length → Ev (fun k => laws_toIntS.l0 k l (l.take i ++ List.replicate d 0) (i : Int)) l
  | 0, i, hi => by
    refine Ev.step (fun k => rfl) ?_
    simp only [laws_toIntS.l0, if_neg (show ¬ (i : Int) < (l.length : Int) by omega)]
    rw [show l.take i ++ List.replicate 0 0 = l by rw [List.take_of_length_le (by omega)]; simp]
    exact Ev.now _
  | d + 1, i, hi => by
    refine Ev.step (fun k => rfl) ?_
    have ih := toIntS_l0 l hl d (i + 1) (by omega)
    have e : (l.take i ++ List.replicate (d + 1) 0).set (i : Int).toNat (rd l (i : Int)) = l.take (i + 1) ++ List.replicate d 0 := take_set l 0 i d (by omega)
    simp only [laws_toIntS.l0, if_pos (show (i : Int) < (l.length : Int) by omega), if_pos (show (0 : Int) ≤ (i : Int) by omega), wr i (by omega),
      if_pos (show (i : Int) < ((l.take i ++ List.replicate (d + 1) 0).length : Int) by rw [List.length_append, List.length_take, List.length_replicate]; omega), e]
    exact ih
theorem toIntS_ev (l : List Int) (hl : l.length ≤ 17592186043904) : Ev (fun k => laws_toIntS.f k l) l := by
  unfold laws_toIntS.f
  simp only [if_pos (show (0 : Int) ≤ (l.length : Int) by omega), Int.toNat_natCast, if_pos (show l.length ≤ 35184372088832 by omega)]
  exact toIntS_l0 l (by omega) l.length 0 (by omega)

theorem eqIntS_l0 (l : List Int) (hl : l.length ≤ 140737488351232) : ∀ d i, i + d = l.length → Ev (fun k => laws_eqIntS.l0 k l l (i : Int)) true
  | 0, i, hi => by
    refine Ev.step (fun k => rfl) ?_
    simp only [laws_eqIntS.l0, if_neg (show ¬ (i : Int) < (l.length : Int) by omega)]
    exact Ev.now _
  | d + 1, i, hi => by
    refine Ev.step (fun k => rfl) ?_
    simp only [laws_eqIntS.l0, if_pos (show (i : Int) < (l.length : Int) by omega), if_pos (show (0 : Int) ≤ (i : Int) by omega), if_true, wr i (by omega)]
    exact eqIntS_l0 l hl d (i + 1) (by omega)
theorem eqIntS_ev (l : List Int) (hl : l.length ≤ 140737488351232) : Ev (fun k => laws_eqIntS.f k l l) true := by
  unfold laws_eqIntS.f
  simp only [if_true]
  exact eqIntS_l0 l hl l.length 0 (by omega)

theorem FnExactKnows : laws_FnExactKnows.Pure := by
  intro l r s _ _ _
  refine Ev.rounds ?_
  unfold laws_FnExactKnows.f laws_toDot.f
  by_cases h : (l.length : Int) > 1048576
  · simp only [if_pos h]; exact Ev.now _
  simp only [if_neg h, Option.bind_some]
  have t := toIntS_ev l (by omega)
  refine Ev.bind t (Ev.bind (spec_Knows_ev l r s (by omega)) (Ev.bind t (Ev.bind (impl_Knows_ev l r s (by omega)) ?_)))
  simp only [bne_self_eq_false, Bool.false_eq_true, if_false]
  exact Ev.bind t (Ev.bind (eqIntS_ev l (by omega)) (Ev.now _))

end Go.Proofs.Ytfaiggdikdndnaa.Pure
