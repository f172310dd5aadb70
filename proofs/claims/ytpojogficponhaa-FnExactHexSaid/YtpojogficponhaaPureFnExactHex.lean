/- The program's Hex writes of every text the figures that the reference's Hex writes (texts past the law's bound answer true at once).
No condition beyond those of the given row. -/
import Derived.Test.YtpojogficponhaaQFnExactHexx0
import Derived.Test.YtpojogficponhaaQFnExactHexx1
import Derived.Test.YtpojogficponhaaPlain
namespace Go.Proofs.Ytpojogficponhaa.Pure
open Go.RowKit Go.Proofs.Ytpojogficponhaa.QFnExactHex Go.Proofs.Ytpojogficponhaa.Plain Go.Proofs.YtpojogficponhaaW.PrintWords Go.Proofs.YtpojogficponhaaW.PrintLast Go.Proofs.YtpojogficponhaaW.PrintMore
set_option linter.unusedSimpArgs false
set_option linter.unusedVariables false

/-- A figure to the base sixteen. -/
def fig (v : Int) : Int := if v < 10 then 48 + v else 87 + v
/-- The figures of the bytes from i on. -/
def hexL (s : ByteArray) : Nat → Nat → List Int → List Int
  | 0, _, out => out
  | d + 1, i, out => hexL s d (i + 1) (out ++ [fig (bt s i / 16), fig (bt s i % 16)])
theorem bt_rng (s : ByteArray) (i : Int) : 0 ≤ bt s i ∧ bt s i < 256 := by
  unfold bt
  split
  · rename_i h
    have := UInt8.toNat_lt (s[i.toNat]'h)
    omega
  · omega
theorem td {n : Int} (m : Int) (h : 0 ≤ n) (hm : 0 < m) : Int.tdiv n m = n / m := Int.tdiv_eq_ediv_of_nonneg h
theorem tm {n : Int} (m : Int) (h : 0 ≤ n) : Int.tmod n m = n % m := Int.tmod_eq_emod_of_nonneg h

theorem spec_l01Figure_eq (v : Int) (h : 0 ≤ v ∧ v < 16) : spec_l01Figure.f v = some (fig v) := by
  unfold spec_l01Figure.f fig
  by_cases c : v < 10
  · simp only [if_pos c, wi (n := 48 + v) (by omega)]
    congr 1; omega
  · simp only [if_neg c, wi (n := 97 + v) (by omega), wi (n := 97 + v - 10) (by omega)]
    congr 1; omega
theorem spec_Hex_l0 (s : ByteArray) (hs : s.size ≤ 20000) : ∀ (d i : Nat) (out : List Int), i + d = s.size → out.length ≤ 2 * i → Ev (fun k => spec_Hex.l0 k s out (i : Int)) (strOfNums (hexL s d i out), true)
  | 0, i, out, hi, ho => by
    refine Ev.step (fun k => rfl) ?_
    simp only [spec_Hex.l0, if_neg (show ¬ (i : Int) < (s.size : Int) by omega)]
    exact Ev.now _
  | d + 1, i, out, hi, ho => by
    refine Ev.step (fun k => rfl) ?_
    have hb := bt_rng s i
    simp only [spec_Hex.l0, if_pos (show (i : Int) < (s.size : Int) by omega), if_pos (show (0 : Int) ≤ (i : Int) by omega), wi (n := bt s i) (by omega), td 16 hb.1 (by omega), tm 16 hb.1, wi (n := bt s i / 16) (by omega), spec_l01Figure_eq (bt s i / 16) (by omega), spec_l01Figure_eq (bt s i % 16) (by omega), Option.bind_some, List.length_cons, List.length_nil, if_pos (show out.length + (0 + 1 + 1) < 140737488355328 by omega), wr i (by omega)]
    exact spec_Hex_l0 s hs d (i + 1) _ (by omega) (by rw [List.length_append]; simp; omega)

theorem fig_table (v : Int) (h : 0 ≤ v ∧ v < 16) : bt (⟨#[48, 49, 50, 51, 52, 53, 54, 55, 56, 57, 97, 98, 99, 100, 101, 102]⟩ : ByteArray) v = fig v := by
  have c : v = 0 ∨ v = 1 ∨ v = 2 ∨ v = 3 ∨ v = 4 ∨ v = 5 ∨ v = 6 ∨ v = 7 ∨ v = 8 ∨ v = 9 ∨ v = 10 ∨ v = 11 ∨ v = 12 ∨ v = 13 ∨ v = 14 ∨ v = 15 := by omega
  rcases c with rfl | rfl | rfl | rfl | rfl | rfl | rfl | rfl | rfl | rfl | rfl | rfl | rfl | rfl | rfl | rfl <;> rfl
theorem impl_Hex_l0 (s : ByteArray) (hs : s.size ≤ 20000) : ∀ (d i : Nat) (out : List Int), i + d = s.size → out.length ≤ 2 * i → Ev (fun k => impl_Hex.l0 k s out (i : Int)) (strOfNums (hexL s d i out), true)
  | 0, i, out, hi, ho => by
    refine Ev.step (fun k => rfl) ?_
    simp only [impl_Hex.l0, if_neg (show ¬ (i : Int) < (s.size : Int) by omega)]
    exact Ev.now _
  | d + 1, i, out, hi, ho => by
    refine Ev.step (fun k => rfl) ?_
    have hb := bt_rng s i
    simp only [impl_Hex.l0, if_pos (show (i : Int) < (s.size : Int) by omega), if_pos (show (0 : Int) ≤ (i : Int) by omega), td 16 hb.1 (by omega), tm 16 hb.1, show bt s i / 16 % 256 = bt s i / 16 by omega, if_pos (show 0 ≤ bt s i / 16 by omega), if_pos (show bt s i / 16 < 16 by omega), if_pos (show 0 ≤ bt s i % 16 by omega), if_pos (show bt s i % 16 < 16 by omega), fig_table (bt s i / 16) (by omega), fig_table (bt s i % 16) (by omega), Option.bind_some, List.length_cons, List.length_nil, if_pos (show out.length + (0 + 1 + 1) < 140737488355328 by omega), wr i (by omega)]
    exact impl_Hex_l0 s hs d (i + 1) _ (by omega) (by rw [List.length_append]; simp; omega)

theorem FnExactHex : laws_FnExactHex.Pure := by
  intro s hs
  refine Ev.rounds ?_
  unfold laws_FnExactHex.f
  by_cases h : (s.size : Int) > 1048576
  · simp only [if_pos h]; exact Ev.now _
  · simp only [if_neg h]
    have hb : ∃ r, Ev (fun k => spec_Hex.f k s) r ∧ Ev (fun k => impl_Hex.f k s) r := by
      unfold spec_Hex.f impl_Hex.f
      by_cases c : (s.size : Int) > 20000
      · simp only [if_pos c]; exact ⟨_, Ev.now _, Ev.now _⟩
      · simp only [if_neg c]; exact ⟨_, spec_Hex_l0 s (by omega) s.size 0 _ (by omega) (by simp), impl_Hex_l0 s (by omega) s.size 0 _ (by omega) (by simp)⟩
    obtain ⟨r, h1, h2⟩ := hb
    refine Ev.bind h1 (Ev.bind h2 ?_)
    simp only [if_true, bne_self_eq_false, Bool.false_eq_true, if_false]
    exact Ev.now _

end Go.Proofs.Ytpojogficponhaa.Pure
