/- The program's SyncedFile tells of every file what the reference's SyncedFile tells.
No condition beyond those of the given row. -/
import Derived.Test.YtpojogficponhaaPFnExactSyncedFilex0
import Derived.Test.YtpojogficponhaaPFnExactSyncedFilex1
import Derived.Test.YtpojogficponhaaStFnExactSyncedFile
import Derived.Test.YtpojogficponhaaPlain
namespace Go.Proofs.Ytpojogficponhaa.Pure
open Go.RowKit Go.Proofs.Ytpojogficponhaa.PFnExactSyncedFile Go.Proofs.Ytpojogficponhaa.Plain Go.Proofs.YtpojogficponhaaW.PrintWords Go.Proofs.YtpojogficponhaaW.PrintLast

def fileB (s : ByteArray) (n : Int) : Bool := if (s.size : Int) ≤ 20000 then inB n 0 (s.size : Int) else false
theorem toFile_eq (s : ByteArray) (n : Int) : laws_toFile.f s n = some (s, n) := rfl

theorem spec_in (x lo hi : Int) : spec_l01In.f x lo hi = some (inB x lo hi) := in_ite x lo hi

theorem spec_FileOk_eq (s : ByteArray) (n : Int) : spec_FileOk.f s n = some (fileB s n) := by
  unfold spec_FileOk.f fileB
  split <;> simp [spec_in]

def syncF (s : ByteArray) (n : Int) : ByteArray × Int := if fileB s n = true then (s, (s.size : Int)) else (s, n)

theorem spec_SyncedFile_eq (s : ByteArray) (n : Int) : spec_SyncedFile.f s n = some (syncF s n) := by
  unfold spec_SyncedFile.f syncF
  simp only [spec_FileOk_eq, Option.bind_some]
  split <;> rfl

theorem impl_in (x lo hi : Int) : impl_within.f x lo hi = some (inB x lo hi) := in_ite x lo hi

theorem impl_FileOk_eq (s : ByteArray) (n : Int) : impl_FileOk.f s n = some (fileB s n) := by
  unfold impl_FileOk.f fileB
  split <;> simp [impl_in]

theorem impl_SyncedFile_eq (s : ByteArray) (n : Int) : impl_SyncedFile.f s n = some (syncF s n) := by
  unfold impl_SyncedFile.f syncF
  simp only [impl_FileOk_eq, Option.bind_some]
  split <;> rfl

theorem szFile_eq (s : ByteArray) (n left : Int) (h0 : 0 ≤ left ∧ left ≤ 1048576) (hs : s.size ≤ 9223372036854775807) : laws_szFile.f s n left = some (if left - (s.size : Int) < 0 then -1 else left - (s.size : Int)) := by
  unfold laws_szFile.f
  rw [wi (n := left - (s.size : Int)) (by omega)]
  split <;> rfl

theorem eqFile_refl (s : ByteArray) (n : Int) : laws_eqFile.f s n s n = some true := by unfold laws_eqFile.f; simp

theorem FnExactSyncedFile : laws_FnExactSyncedFile.Pure := by
  intro s n hs _
  unfold laws_FnExactSyncedFile.f
  rw [szFile_eq s n _ (by omega) hs]
  simp only [Option.bind_some, toFile_eq, spec_SyncedFile_eq, impl_SyncedFile_eq, eqFile_refl, if_true]
  split <;> rfl

end Go.Proofs.Ytpojogficponhaa.Pure
