/- The program's Crashed tells of every file and number what the reference's Crashed tells.
No condition beyond those of the given row. -/
import Derived.Test.YtfaiggdikdndnaaQFnExactCrashedx0
import Derived.Test.YtfaiggdikdndnaaQFnExactCrashedx1
import Derived.Test.YtfaiggdikdndnaaStFnExactCrashed
import Derived.Test.YtfaiggdikdndnaaPlain
namespace Go.Proofs.Ytfaiggdikdndnaa.Pure
open Go.RowKit Go.Proofs.Ytfaiggdikdndnaa.QFnExactCrashed Go.Proofs.Ytfaiggdikdndnaa.Plain Go.Proofs.YtfaiggdikdndnaaW.PrintWords Go.Proofs.YtfaiggdikdndnaaW.PrintLast

def fileB (s : ByteArray) (n : Int) : Bool := if (s.size : Int) ≤ 20000 then inB n 0 (s.size : Int) else false
theorem toFile_eq (s : ByteArray) (n : Int) : laws_toFile.f s n = some (s, n) := rfl

theorem spec_in (x lo hi : Int) : spec_l01In.f x lo hi = some (inB x lo hi) := in_ite x lo hi

theorem spec_FileOk_eq (s : ByteArray) (n : Int) : spec_FileOk.f s n = some (fileB s n) := by
  unfold spec_FileOk.f fileB
  split <;> simp [spec_in]

def crashN (s : ByteArray) (n keep : Int) : Int := if keep > (s.size : Int) - n then (s.size : Int) else if keep > 0 then n + keep else n
def crashF (s : ByteArray) (n keep : Int) : ByteArray × Int := if fileB s n = true then (s.extract 0 (crashN s n keep).toNat, crashN s n keep) else (s, n)
theorem fileB_true {s : ByteArray} {n : Int} (h : fileB s n = true) : (s.size : Int) ≤ 20000 ∧ 0 ≤ n ∧ n ≤ (s.size : Int) := by
  unfold fileB at h
  by_cases c : (s.size : Int) ≤ 20000
  · rw [if_pos c] at h; exact ⟨c, inB_true.1 h⟩
  · simp [c] at h

theorem spec_Crashed_eq (s : ByteArray) (n keep : Int) (hk : -9223372036854775808 ≤ keep ∧ keep ≤ 9223372036854775807) : spec_Crashed.f s n keep = some (crashF s n keep) := by
  unfold spec_Crashed.f crashF crashN
  simp only [spec_FileOk_eq, Option.bind_some]
  by_cases c : fileB s n = true
  · have := fileB_true c
    simp only [if_pos c, wi (n := (s.size : Int) - n) (by omega)]
    by_cases c1 : keep > (s.size : Int) - n
    · simp only [if_pos c1, if_pos (show (0 : Int) ≤ (s.size : Int) by omega), if_pos (Int.le_refl (s.size : Int))]
    · simp only [if_neg c1]
      by_cases c2 : keep > 0
      · simp only [if_pos c2, wi (n := n + keep) (by omega), if_pos (show (0 : Int) ≤ n + keep by omega), if_pos (show n + keep ≤ (s.size : Int) by omega)]
      · simp only [if_neg c2, if_pos this.2.1, if_pos this.2.2]
  · simp only [if_neg c]

theorem impl_in (x lo hi : Int) : impl_within.f x lo hi = some (inB x lo hi) := in_ite x lo hi

theorem impl_FileOk_eq (s : ByteArray) (n : Int) : impl_FileOk.f s n = some (fileB s n) := by
  unfold impl_FileOk.f fileB
  split <;> simp [impl_in]

theorem impl_Crashed_eq (s : ByteArray) (n keep : Int) (hk : -9223372036854775808 ≤ keep ∧ keep ≤ 9223372036854775807) : impl_Crashed.f s n keep = some (crashF s n keep) := by
  unfold impl_Crashed.f crashF
  simp only [impl_FileOk_eq, Option.bind_some]
  by_cases c : fileB s n = true
  · have := fileB_true c
    have e : wrap64 (n + mn (mx keep 0) (wrap64 ((s.size : Int) - n))) = crashN s n keep := by
      rw [wi (n := (s.size : Int) - n) (by omega)]
      have hm : n + mn (mx keep 0) ((s.size : Int) - n) = crashN s n keep := by
        unfold mn mx crashN
        (repeat' split) <;> omega
      have hr : 0 ≤ crashN s n keep ∧ crashN s n keep ≤ (s.size : Int) := by
        unfold crashN
        (repeat' split) <;> omega
      rw [hm, wi (by omega)]
    have e2 : 0 ≤ crashN s n keep ∧ crashN s n keep ≤ (s.size : Int) := by
      unfold crashN
      split <;> (try split) <;> omega
    simp only [if_pos c, e, if_pos e2.1, if_pos e2.2]
  · simp only [if_neg c]

theorem szFile_eq (s : ByteArray) (n left : Int) (h0 : 0 ≤ left ∧ left ≤ 1048576) (hs : s.size ≤ 9223372036854775807) : laws_szFile.f s n left = some (if left - (s.size : Int) < 0 then -1 else left - (s.size : Int)) := by
  unfold laws_szFile.f
  rw [wi (n := left - (s.size : Int)) (by omega)]
  split <;> rfl

theorem eqFile_refl (s : ByteArray) (n : Int) : laws_eqFile.f s n s n = some true := by unfold laws_eqFile.f; simp

theorem FnExactCrashed : laws_FnExactCrashed.Pure := by
  intro s n keep hs _ hk
  have hk' := of_wf hk
  unfold laws_FnExactCrashed.f
  rw [szFile_eq s n _ (by omega) hs]
  simp only [Option.bind_some, toFile_eq, spec_Crashed_eq _ _ _ hk', impl_Crashed_eq _ _ _ hk', eqFile_refl, if_true]
  split <;> rfl

end Go.Proofs.Ytfaiggdikdndnaa.Pure
