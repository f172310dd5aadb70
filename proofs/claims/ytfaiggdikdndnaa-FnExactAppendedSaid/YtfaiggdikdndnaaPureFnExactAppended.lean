/- The program's Appended tells of every file and text what the reference's Appended tells.
No condition beyond those of the given row. -/
import Derived.Test.YtfaiggdikdndnaaPFnExactAppendedx0
import Derived.Test.YtfaiggdikdndnaaPFnExactAppendedx1
import Derived.Test.YtfaiggdikdndnaaStFnExactAppended
import Derived.Test.YtfaiggdikdndnaaPlain
namespace Go.Proofs.Ytfaiggdikdndnaa.Pure
open Go.RowKit Go.Proofs.Ytfaiggdikdndnaa.PFnExactAppended Go.Proofs.Ytfaiggdikdndnaa.Plain Go.Proofs.YtfaiggdikdndnaaW.PrintWords Go.Proofs.YtfaiggdikdndnaaW.PrintLast

def fileB (s : ByteArray) (n : Int) : Bool := if (s.size : Int) ≤ 20000 then inB n 0 (s.size : Int) else false
theorem toFile_eq (s : ByteArray) (n : Int) : laws_toFile.f s n = some (s, n) := rfl

theorem spec_in (x lo hi : Int) : spec_l01In.f x lo hi = some (inB x lo hi) := in_ite x lo hi

theorem spec_FileOk_eq (s : ByteArray) (n : Int) : spec_FileOk.f s n = some (fileB s n) := by
  unfold spec_FileOk.f fileB
  split <;> simp [spec_in]

def appF (s : ByteArray) (n : Int) (t : ByteArray) : ByteArray × Int × Bool := if fileB s n = true then (if fileB (s ++ t) n = true then (s ++ t, n, true) else (s, n, false)) else (s, n, false)

theorem spec_Appended_eq (s : ByteArray) (n : Int) (t : ByteArray) (h : s.size + t.size ≤ 9223372036854775807) : spec_Appended.f s n t = some (appF s n t) := by
  unfold spec_Appended.f appF
  simp only [if_pos h, spec_FileOk_eq, Option.bind_some]
  by_cases c : fileB s n = true
  · simp only [if_pos c]
    by_cases c2 : fileB (s ++ t) n = true
    · simp only [if_pos c2]
    · simp only [if_neg c2]
  · simp only [if_neg c]

theorem impl_in (x lo hi : Int) : impl_within.f x lo hi = some (inB x lo hi) := in_ite x lo hi

theorem impl_FileOk_eq (s : ByteArray) (n : Int) : impl_FileOk.f s n = some (fileB s n) := by
  unfold impl_FileOk.f fileB
  split <;> simp [impl_in]

theorem impl_Appended_eq (s : ByteArray) (n : Int) (t : ByteArray) (h : s.size + t.size ≤ 9223372036854775807) : impl_Appended.f s n t = some (appF s n t) := by
  unfold impl_Appended.f appF
  simp only [if_pos h, impl_FileOk_eq, Option.bind_some]
  by_cases c : fileB s n = true
  · simp only [if_pos c]
    by_cases c2 : fileB (s ++ t) n = true
    · simp only [if_pos c2]
    · simp only [if_neg c2]
  · simp only [if_neg c]

theorem szFile_eq (s : ByteArray) (n left : Int) (h0 : 0 ≤ left ∧ left ≤ 1048576) (hs : s.size ≤ 9223372036854775807) : laws_szFile.f s n left = some (if left - (s.size : Int) < 0 then -1 else left - (s.size : Int)) := by
  unfold laws_szFile.f
  rw [wi (n := left - (s.size : Int)) (by omega)]
  split <;> rfl

theorem eqFile_refl (s : ByteArray) (n : Int) : laws_eqFile.f s n s n = some true := by unfold laws_eqFile.f; simp

theorem FnExactAppended : laws_FnExactAppended.Pure := by
  intro s n t hs _ ht
  unfold laws_FnExactAppended.f
  by_cases h : (t.size : Int) > 1048576
  · simp only [if_pos h]
  simp only [if_neg h]
  rw [szFile_eq s n _ (by omega) hs]
  simp only [Option.bind_some]
  by_cases c : (if 1048576 - (s.size : Int) < 0 then (-1 : Int) else 1048576 - (s.size : Int)) < 0
  · simp only [if_pos c]
  · have hz : (s.size : Int) ≤ 1048576 := by
      by_cases c2 : 1048576 - (s.size : Int) < 0
      · rw [if_pos c2] at c; omega
      · omega
    simp only [if_neg c, toFile_eq, Option.bind_some, spec_Appended_eq s n t (by omega), impl_Appended_eq s n t (by omega), eqFile_refl, if_true, bne_self_eq_false, Bool.false_eq_true, if_false]

end Go.Proofs.Ytfaiggdikdndnaa.Pure
