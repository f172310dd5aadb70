/- The program's ShortText tells of every text what the reference's ShortText tells.
No condition beyond those of the given row. -/
import Derived.Test.YtpojogficponhaaPFnExactShortTextx0
import Derived.Test.YtpojogficponhaaPFnExactShortTextx1
import Derived.Test.YtpojogficponhaaPlain
namespace Go.Proofs.Ytpojogficponhaa.Pure
open Go.RowKit Go.Proofs.Ytpojogficponhaa.PFnExactShortText Go.Proofs.Ytpojogficponhaa.Plain Go.Proofs.YtpojogficponhaaW.PrintWords Go.Proofs.YtpojogficponhaaW.PrintLast

/-- The bytes of a number, lowest seven bits first. -/
def varL : Nat → Int → List Int
  | 0, x => [x % 256]
  | d + 1, x => if x > 127 then (x % 128 + 128) :: varL d (x / 128) else [x % 256]
def big (d : Nat) : Int := 128 ^ d
theorem big_succ (d : Nat) : big (d + 1) = 128 * big d := by unfold big; rw [Int.pow_succ]; omega
theorem big_pos (d : Nat) : 0 < big d := by unfold big; exact Int.pow_pos (by omega)
theorem big_zero : big 0 = 1 := rfl
theorem varL_len : ∀ d x, (varL d x).length ≤ d + 1
  | 0, x => by simp [varL]
  | d + 1, x => by
    have := varL_len d (x / 128)
    unfold varL
    split <;> simp <;> omega

/-- The text of a number. -/
def varT (x : Int) : ByteArray := strOfNums (varL 9 x)

theorem spec_l01Var_l0 : ∀ (d : Nat) (x : Int) (out : List Int), 0 ≤ x → x ≤ 9223372036854775807 → x < 128 * big d → out.length + d ≤ 100 → Ev (fun k => spec_l01Var.l0 k x out) (strOfNums (out ++ varL d x))
  | 0, x, out, h0, hm, hx, hl => by
    refine Ev.step (fun k => rfl) ?_
    rw [big_zero] at hx
    simp only [spec_l01Var.l0, if_neg (show ¬ x > 127 by omega), if_pos (show out.length < 140737488355328 by omega), varL]
    exact Ev.now _
  | d + 1, x, out, h0, hm, hx, hl => by
    refine Ev.step (fun k => rfl) ?_
    rw [big_succ] at hx
    by_cases c : x > 127
    · have e1 : wrap64 (Int.tdiv x 128) = x / 128 := by rw [Int.tdiv_eq_ediv_of_nonneg h0]; exact wi (by omega)
      have e2 : (wrap64 ((Int.tmod x 128) + 128)) % 256 = x % 128 + 128 := by rw [Int.tmod_eq_emod_of_nonneg h0, wi (by omega)]; omega
      have ih := spec_l01Var_l0 d (x / 128) (out ++ [x % 128 + 128]) (by omega) (by omega) (by omega) (by simp; omega)
      simp only [spec_l01Var.l0, if_pos c, if_pos (show out.length < 140737488355328 by omega), e1, e2, varL]
      simpa using ih
    · simp only [spec_l01Var.l0, if_neg c, if_pos (show out.length < 140737488355328 by omega), varL]
      exact Ev.now _
theorem spec_l01Var_ev (x : Int) (h0 : 0 ≤ x) (hm : x ≤ 9223372036854775807) : Ev (fun k => spec_l01Var.f k x) (varT x) :=
  spec_l01Var_l0 9 x [] h0 hm (by unfold big; omega) (by simp)

def shortT (s : ByteArray) : ByteArray × Bool := if (s.size : Int) > 20000 then ((⟨#[]⟩ : ByteArray), false) else (varT (s.size : Int) ++ s, true)
theorem strOfNums_len (l : List Int) : (strOfNums l).size = l.length := by
  unfold strOfNums; simp [ByteArray.size]
theorem varT_size (x : Int) : (varT x).size ≤ 10 := by
  unfold varT; rw [strOfNums_len]; exact varL_len 9 x

theorem spec_ShortText_ev (s : ByteArray) (hs : s.size ≤ 140737488351232) : Ev (fun k => spec_ShortText.f k s) (shortT s) := by
  unfold spec_ShortText.f shortT
  by_cases c : (s.size : Int) > 20000
  · simp only [if_pos c]; exact Ev.now _
  · simp only [if_neg c]
    refine Ev.bind (spec_l01Var_ev _ (by omega) (by omega)) ?_
    have := varT_size (s.size : Int)
    simp only [if_pos (show (varT (s.size : Int)).size + s.size ≤ 9223372036854775807 by omega)]
    exact Ev.now _

theorem impl_in (x lo hi : Int) : impl_within.f x lo hi = some (inB x lo hi) := in_ite x lo hi

theorem impl_VarText_l0 : ∀ (d : Nat) (x : Int) (out : List Int), 0 ≤ x → x ≤ 9223372036854775807 → x < 128 * big d → out.length + d ≤ 100 → Ev (fun k => impl_VarText.l0 k x out) (strOfNums (out ++ varL d x), true)
  | 0, x, out, h0, hm, hx, hl => by
    refine Ev.step (fun k => rfl) ?_
    rw [big_zero] at hx
    simp only [impl_VarText.l0, if_neg (show ¬ x > 127 by omega), if_pos (show out.length < 140737488355328 by omega), varL]
    exact Ev.now _
  | d + 1, x, out, h0, hm, hx, hl => by
    refine Ev.step (fun k => rfl) ?_
    rw [big_succ] at hx
    by_cases c : x > 127
    · have e1 : wrap64 (Int.tdiv x 128) = x / 128 := by rw [Int.tdiv_eq_ediv_of_nonneg h0]; exact wi (by omega)
      have e2 : (wrap64 ((Int.tmod x 128) + 128)) % 256 = x % 128 + 128 := by rw [Int.tmod_eq_emod_of_nonneg h0, wi (by omega)]; omega
      have ih := impl_VarText_l0 d (x / 128) (out ++ [x % 128 + 128]) (by omega) (by omega) (by omega) (by simp; omega)
      simp only [impl_VarText.l0, if_pos c, if_pos (show out.length < 140737488355328 by omega), e1, e2, varL]
      simpa using ih
    · simp only [impl_VarText.l0, if_neg c, if_pos (show out.length < 140737488355328 by omega), varL]
      exact Ev.now _
theorem impl_VarText_ev (x : Int) : Ev (fun k => impl_VarText.f k x) (if inB x 0 1000000000 = true then (varT x, true) else ((⟨#[]⟩ : ByteArray), false)) := by
  unfold impl_VarText.f
  simp only [impl_in, Option.bind_some]
  by_cases c : inB x 0 1000000000 = true
  · simp only [if_pos c]
    have := inB_true.1 c
    exact impl_VarText_l0 9 x [] (by omega) (by omega) (by unfold big; omega) (by simp)
  · simp only [if_neg c]
    exact Ev.now _

theorem impl_ShortText_ev (s : ByteArray) (hs : s.size ≤ 140737488351232) : Ev (fun k => impl_ShortText.f k s) (shortT s) := by
  unfold impl_ShortText.f shortT
  by_cases c : (s.size : Int) > 20000
  · simp only [if_pos c]; exact Ev.now _
  · simp only [if_neg c]
    refine Ev.bind (impl_VarText_ev _) ?_
    have := varT_size (s.size : Int)
    simp only [if_pos (inB_true.2 (show 0 ≤ (s.size : Int) ∧ (s.size : Int) ≤ 1000000000 by omega)), if_pos (show (varT (s.size : Int)).size + s.size ≤ 9223372036854775807 by omega)]
    exact Ev.now _

theorem FnExactShortText : laws_FnExactShortText.Pure := by
  intro s hs
  refine Ev.rounds ?_
  unfold laws_FnExactShortText.f
  by_cases h : (s.size : Int) > 1048576
  · simp only [if_pos h]; exact Ev.now _
  · simp only [if_neg h]
    refine Ev.bind (spec_ShortText_ev s hs) (Ev.bind (impl_ShortText_ev s hs) ?_)
    simp only [if_true, bne_self_eq_false, Bool.false_eq_true, if_false]
    exact Ev.now _

end Go.Proofs.Ytpojogficponhaa.Pure
