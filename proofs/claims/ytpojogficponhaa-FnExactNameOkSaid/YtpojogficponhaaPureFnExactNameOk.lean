/- The program's NameOk tells of every text what the reference's NameOk tells (texts past the law's bound answer true at once).
No condition beyond those of the given row. -/
import Derived.Test.YtpojogficponhaaPFnExactNameOkx0
import Derived.Test.YtpojogficponhaaPFnExactNameOkx1
import Derived.Test.YtpojogficponhaaPlain
namespace Go.Proofs.Ytpojogficponhaa.Pure
open Go.RowKit Go.Proofs.Ytpojogficponhaa.PFnExactNameOk Go.Proofs.Ytpojogficponhaa.Plain Go.Proofs.YtpojogficponhaaW.PrintWords Go.Proofs.YtpojogficponhaaW.PrintLast

/-- Lower-case letters from byte i on, d of them, and a length of 1 to 8. -/
def nameB (s : ByteArray) : Nat → Nat → Bool
  | 0, _ => inB (s.size : Int) 1 8
  | d + 1, i => if inB (bt s (i : Int)) 97 122 = true then nameB s d (i + 1) else false

theorem spec_in (x lo hi : Int) : spec_l01In.f x lo hi = some (inB x lo hi) := in_ite x lo hi

theorem spec_NameOk_l0 (s : ByteArray) (hs : s.size ≤ 140737488351232) : ∀ d i, i + d = s.size → Ev (fun k => spec_NameOk.l0 k s (i : Int)) (nameB s d i)
  | 0, i, hi => by
    refine Ev.step (fun k => rfl) ?_
    simp only [spec_NameOk.l0, if_neg (show ¬ (i : Int) < (s.size : Int) by omega), spec_in, Option.bind_some]
    exact Ev.now _
  | d + 1, i, hi => by
    refine Ev.step (fun k => rfl) ?_
    have ih := spec_NameOk_l0 s hs d (i + 1) (by omega)
    have hb := bt_range s (i : Int)
    simp only [spec_NameOk.l0, if_pos (show (i : Int) < (s.size : Int) by omega), if_pos (show (0 : Int) ≤ (i : Int) by omega), wr i (by omega), nameB]
    by_cases h1 : bt s (i : Int) < 97
    · simp only [if_pos h1, inB_false.2 (show ¬ (97 ≤ bt s (i : Int) ∧ bt s (i : Int) ≤ 122) by omega)]
      exact Ev.now _
    · by_cases h2 : bt s (i : Int) > 122
      · simp only [if_neg h1, if_pos h2, inB_false.2 (show ¬ (97 ≤ bt s (i : Int) ∧ bt s (i : Int) ≤ 122) by omega)]
        exact Ev.now _
      · simp only [if_neg h1, if_neg h2, inB_true.2 (show 97 ≤ bt s (i : Int) ∧ bt s (i : Int) ≤ 122 by omega), if_true]
        exact ih
theorem spec_NameOk_ev (s : ByteArray) (hs : s.size ≤ 140737488351232) : Ev (fun k => spec_NameOk.f k s) (nameB s s.size 0) := spec_NameOk_l0 s hs s.size 0 (by omega)

theorem impl_in (x lo hi : Int) : impl_within.f x lo hi = some (inB x lo hi) := in_ite x lo hi

theorem impl_NameOk_l0 (s : ByteArray) (hs : s.size ≤ 140737488351232) : ∀ d i, i + d = s.size → Ev (fun k => impl_NameOk.l0 k s (i : Int)) (nameB s d i)
  | 0, i, hi => by
    refine Ev.step (fun k => rfl) ?_
    simp only [impl_NameOk.l0, if_neg (show ¬ (i : Int) < (s.size : Int) by omega), impl_in, Option.bind_some]
    exact Ev.now _
  | d + 1, i, hi => by
    refine Ev.step (fun k => rfl) ?_
    have ih := impl_NameOk_l0 s hs d (i + 1) (by omega)
    have hb := bt_range s (i : Int)
    simp only [impl_NameOk.l0, if_pos (show (i : Int) < (s.size : Int) by omega), if_pos (show (0 : Int) ≤ (i : Int) by omega), wr i (by omega), nameB, wi (n := bt s (i : Int)) (by omega), impl_in, Option.bind_some]
    cases inB (bt s (i : Int)) 97 122
    · exact Ev.now _
    · exact ih
theorem impl_NameOk_ev (s : ByteArray) (hs : s.size ≤ 140737488351232) : Ev (fun k => impl_NameOk.f k s) (nameB s s.size 0) := impl_NameOk_l0 s hs s.size 0 (by omega)

theorem FnExactNameOk : laws_FnExactNameOk.Pure := by
  intro s hs
  refine Ev.rounds ?_
  unfold laws_FnExactNameOk.f
  by_cases h : (s.size : Int) > 1048576
  · simp only [if_pos h]; exact Ev.now _
  · simp only [if_neg h]
    refine Ev.bind (spec_NameOk_ev s hs) (Ev.bind (impl_NameOk_ev s hs) ?_)
    simp only [bne_self_eq_false, Bool.false_eq_true, if_false]
    exact Ev.now _

end Go.Proofs.Ytpojogficponhaa.Pure
