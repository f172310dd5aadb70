/- The program's Unhex reads of every text what the reference's Unhex reads (texts past the law's bound answer true at once).
No condition beyond those of the given row. -/
import Derived.Test.YtpcjgmlfjdffbaaQFnExactUnhexx0
import Derived.Test.YtpcjgmlfjdffbaaQFnExactUnhexx1
import Derived.Test.YtpcjgmlfjdffbaaStFnExactUnhex
import Derived.Test.YtpcjgmlfjdffbaaPlain
namespace Go.Proofs.Ytpcjgmlfjdffbaa.Pure
open Go.RowKit Go.Proofs.Ytpcjgmlfjdffbaa.QFnExactUnhex Go.Proofs.Ytpcjgmlfjdffbaa.Plain Go.Proofs.YtpcjgmlfjdffbaaW.PrintWords Go.Proofs.YtpcjgmlfjdffbaaW.PrintLast Go.Proofs.YtpcjgmlfjdffbaaW.PrintMore
set_option linter.unusedSimpArgs false
set_option linter.unusedVariables false

/-- A figure's value to the base sixteen; -1: no figure. -/
def val16 (x : Int) : Int := if 48 ≤ x ∧ x ≤ 57 then x - 48 else if 97 ≤ x ∧ x ≤ 102 then x - 87 else -1
theorem val16_range (x : Int) : -1 ≤ val16 x ∧ val16 x ≤ 15 := by unfold val16; (repeat' split) <;> omega
/-- The bytes that d pairs of figures from i on tell. -/
def unhexR (s : ByteArray) : Nat → Nat → List Int → ByteArray × Bool
  | 0, _, out => (strOfNums out, true)
  | d + 1, i, out => if val16 (bt s (i : Int)) < 0 then ((⟨#[]⟩ : ByteArray), false) else if val16 (bt s ((i + 1 : Nat) : Int)) < 0 then ((⟨#[]⟩ : ByteArray), false) else unhexR s d (i + 2) (out ++ [(16 * val16 (bt s (i : Int)) + val16 (bt s ((i + 1 : Nat) : Int))) % 256])
def unhexT (s : ByteArray) : ByteArray × Bool := if (s.size : Int) > 40000 then ((⟨#[]⟩ : ByteArray), false) else if (s.size : Int) % 2 = 0 then unhexR s (s.size / 2) 0 [] else ((⟨#[]⟩ : ByteArray), false)
theorem wr2 (i : Nat) (h : i < 4611686018427387904) : wrap64 ((i : Int) + 2) = ((i + 2 : Nat) : Int) := by unfold wrap64; omega

theorem spec_l01Value_ev (x : Int) (h : 0 ≤ x ∧ x ≤ 255) : Ev (fun k => spec_l01Value.f k x) (val16 x) := by
  unfold spec_l01Value.f val16
  by_cases c : x ≥ 48
  · simp only [if_pos c]
    refine Ev.step (fun k => rfl) ?_
    by_cases c2 : x ≤ 57
    · simp only [spec_l01Value.j0, decide_eq_true c2, if_true, if_pos (show 48 ≤ x ∧ x ≤ 57 from ⟨c, c2⟩), wi (n := x) (by omega), wi (n := x - 48) (by omega)]
      exact Ev.now _
    · simp only [spec_l01Value.j0, decide_eq_false c2, Bool.false_eq_true, if_false, if_neg (show ¬ (48 ≤ x ∧ x ≤ 57) from fun h => c2 h.2), wi (n := x) (by omega), wi (n := x - 97) (by omega), wi (n := x - 97 + 10) (by omega)]
      by_cases c3 : x ≥ 97
      · by_cases c4 : x ≤ 102
        · simp only [if_pos c3, if_pos c4, if_pos (show 97 ≤ x ∧ x ≤ 102 from ⟨c3, c4⟩)]
          rw [show x - 97 + 10 = x - 87 by omega]
          exact Ev.now _
        · simp only [if_pos c3, if_neg c4, if_neg (show ¬ (97 ≤ x ∧ x ≤ 102) from fun h => c4 h.2)]
          exact Ev.now _
      · simp only [if_neg c3, if_neg (show ¬ (97 ≤ x ∧ x ≤ 102) from fun h => c3 h.1)]
        exact Ev.now _
  · simp only [if_neg c, if_neg (show ¬ (48 ≤ x ∧ x ≤ 57) from fun h => c h.1), if_neg (show ¬ (97 ≤ x ∧ x ≤ 102) from fun h => c (by omega))]
    refine Ev.step (fun k => rfl) ?_
    simp only [spec_l01Value.j0, Bool.false_eq_true, if_false, if_neg (show ¬ x ≥ 97 by omega)]
    exact Ev.now _
theorem spec_Unhex_l0 (s : ByteArray) (hs : s.size ≤ 40000) : ∀ (d i : Nat) (out : List Int), i + 2 * d = s.size → out.length ≤ i → Ev (fun k => spec_Unhex.l0 k s out (i : Int)) (unhexR s d i out)
  | 0, i, out, hi, ho => by
    refine Ev.step (fun k => rfl) ?_
    simp only [spec_Unhex.l0, if_neg (show ¬ (i : Int) < (s.size : Int) by omega), unhexR]
    exact Ev.now _
  | d + 1, i, out, hi, ho => by
    refine Ev.step (fun k => rfl) ?_
    have hb := bt_range s i
    have hb2 := bt_range s ((i + 1 : Nat) : Int)
    have g1 := val16_range (bt s i)
    have g2 := val16_range (bt s ((i + 1 : Nat) : Int))
    simp only [spec_Unhex.l0, if_pos (show (i : Int) < (s.size : Int) by omega), if_pos (show (0 : Int) ≤ (i : Int) by omega), wr i (by omega), if_pos (show (0 : Int) ≤ ((i + 1 : Nat) : Int) by omega), if_pos (show ((i + 1 : Nat) : Int) < (s.size : Int) by omega), if_pos (show out.length < 140737488355328 by omega), wr2 i (by omega)]
    refine Ev.bind (spec_l01Value_ev _ hb) (Ev.bind (spec_l01Value_ev _ hb2) ?_)
    unfold unhexR
    by_cases c1 : val16 (bt s (i : Int)) < 0
    · simp only [if_pos c1]; exact Ev.now _
    by_cases c2 : val16 (bt s ((i + 1 : Nat) : Int)) < 0
    · simp only [if_neg c1, if_pos c2]; exact Ev.now _
    simp only [if_neg c1, if_neg c2, wi (n := 16 * val16 (bt s (i : Int))) (by omega), wi (n := 16 * val16 (bt s (i : Int)) + val16 (bt s ((i + 1 : Nat) : Int))) (by omega)]
    exact spec_Unhex_l0 s hs d (i + 2) _ (by omega) (by rw [List.length_append]; simp; omega)
theorem spec_Unhex_ev (s : ByteArray) : Ev (fun k => spec_Unhex.f k s) (unhexT s) := by
  unfold spec_Unhex.f unhexT
  by_cases c : (s.size : Int) > 40000
  · simp only [if_pos c]
    refine Ev.step (fun k => rfl) ?_
    simp only [spec_Unhex.j0, if_true]
    exact Ev.now _
  · simp only [if_neg c]
    refine Ev.step (fun k => rfl) ?_
    by_cases c2 : (s.size : Int) % 2 = 0
    · simp only [spec_Unhex.j0, if_pos c2, bne_eq_false_iff_eq.mpr c2, Bool.false_eq_true, if_false]
      exact spec_Unhex_l0 s (by omega) (s.size / 2) 0 [] (by omega) (by simp)
    · simp only [spec_Unhex.j0, if_neg c2, bne_iff_ne.mpr c2, if_true]
      exact Ev.now _

theorem table_val : ∀ n : Fin 256, Lib.indexByte (⟨#[48, 49, 50, 51, 52, 53, 54, 55, 56, 57, 97, 98, 99, 100, 101, 102]⟩ : ByteArray).data.toList (((n.val : Int)).toNat.toUInt8) = val16 (n.val : Int) := by decide +kernel
theorem index_eq (x : Int) (h : 0 ≤ x ∧ x ≤ 255) : strings_IndexByte.f (⟨#[48, 49, 50, 51, 52, 53, 54, 55, 56, 57, 97, 98, 99, 100, 101, 102]⟩ : ByteArray) x = some (val16 x) := by
  have := table_val ⟨x.toNat, by omega⟩
  simp only [show ((x.toNat : Nat) : Int) = x by omega] at this
  unfold strings_IndexByte.f
  rw [this]
theorem impl_Unhex_l0 (s : ByteArray) (hs : s.size ≤ 40000) : ∀ (d i : Nat) (out : List Int), i + 2 * d = s.size → out.length ≤ i → Ev (fun k => impl_Unhex.l0 k s out (i : Int)) (unhexR s d i out)
  | 0, i, out, hi, ho => by
    refine Ev.step (fun k => rfl) ?_
    simp only [impl_Unhex.l0, if_neg (show ¬ (i : Int) < (s.size : Int) by omega), unhexR]
    exact Ev.now _
  | d + 1, i, out, hi, ho => by
    refine Ev.step (fun k => rfl) ?_
    have hb := bt_range s i
    have hb2 := bt_range s ((i + 1 : Nat) : Int)
    have g1 := val16_range (bt s i)
    have g2 := val16_range (bt s ((i + 1 : Nat) : Int))
    simp only [impl_Unhex.l0, if_pos (show (i : Int) < (s.size : Int) by omega), if_pos (show (0 : Int) ≤ (i : Int) by omega), wr i (by omega), if_pos (show (0 : Int) ≤ ((i + 1 : Nat) : Int) by omega), if_pos (show ((i + 1 : Nat) : Int) < (s.size : Int) by omega), if_pos (show out.length < 140737488355328 by omega), wr2 i (by omega), index_eq _ hb, index_eq _ hb2, Option.bind_some]
    unfold unhexR
    by_cases c1 : val16 (bt s (i : Int)) < 0
    · simp only [if_pos c1]; exact Ev.now _
    by_cases c2 : val16 (bt s ((i + 1 : Nat) : Int)) < 0
    · simp only [if_neg c1, if_pos c2]; exact Ev.now _
    simp only [if_neg c1, if_neg c2, wi (n := 16 * val16 (bt s (i : Int))) (by omega), wi (n := 16 * val16 (bt s (i : Int)) + val16 (bt s ((i + 1 : Nat) : Int))) (by omega)]
    exact impl_Unhex_l0 s hs d (i + 2) _ (by omega) (by rw [List.length_append]; simp; omega)
theorem impl_Unhex_ev (s : ByteArray) : Ev (fun k => impl_Unhex.f k s) (unhexT s) := by
  unfold impl_Unhex.f unhexT
  by_cases c2 : (s.size : Int) % 2 = 0
  · simp only [if_pos c2]
    refine Ev.step (fun k => rfl) ?_
    by_cases c : (s.size : Int) > 40000
    · simp only [impl_Unhex.j0, if_pos c, decide_eq_true c, if_true]
      exact Ev.now _
    · simp only [impl_Unhex.j0, if_neg c, decide_eq_false c, Bool.false_eq_true, if_false]
      exact impl_Unhex_l0 s (by omega) (s.size / 2) 0 [] (by omega) (by simp)
  · simp only [if_neg c2]
    refine Ev.step (fun k => rfl) ?_
    simp only [impl_Unhex.j0, if_true, ite_self]
    exact Ev.now _

theorem FnExactUnhex : laws_FnExactUnhex.Pure := by
  intro s hs
  refine Ev.rounds ?_
  unfold laws_FnExactUnhex.f
  by_cases h : (s.size : Int) > 1048576
  · simp only [if_pos h]; exact Ev.now _
  · simp only [if_neg h]
    refine Ev.bind (spec_Unhex_ev s) (Ev.bind (impl_Unhex_ev s) ?_)
    simp only [if_true, bne_self_eq_false, Bool.false_eq_true, if_false]
    exact Ev.now _

end Go.Proofs.Ytpcjgmlfjdffbaa.Pure
