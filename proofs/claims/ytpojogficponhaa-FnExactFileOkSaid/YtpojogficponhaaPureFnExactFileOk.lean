/- The program's FileOk tells of every file what the reference's FileOk tells.
No condition beyond those of the given row. -/
import Derived.Test.YtpojogficponhaaPFnExactFileOkx0
import Derived.Test.YtpojogficponhaaPFnExactFileOkx1
import Derived.Test.YtpojogficponhaaStFnExactFileOk
import Derived.Test.YtpojogficponhaaPlain
namespace Go.Proofs.Ytpojogficponhaa.Pure
open Go.RowKit Go.Proofs.Ytpojogficponhaa.PFnExactFileOk Go.Proofs.Ytpojogficponhaa.Plain Go.Proofs.YtpojogficponhaaW.PrintWords Go.Proofs.YtpojogficponhaaW.PrintLast

def fileB (s : ByteArray) (n : Int) : Bool := if (s.size : Int) ≤ 20000 then inB n 0 (s.size : Int) else false
theorem toFile_eq (s : ByteArray) (n : Int) : laws_toFile.f s n = some (s, n) := rfl

theorem spec_in (x lo hi : Int) : spec_l01In.f x lo hi = some (inB x lo hi) := in_ite x lo hi

theorem spec_FileOk_eq (s : ByteArray) (n : Int) : spec_FileOk.f s n = some (fileB s n) := by
  unfold spec_FileOk.f fileB
  split <;> simp [spec_in]

theorem impl_in (x lo hi : Int) : impl_within.f x lo hi = some (inB x lo hi) := in_ite x lo hi

theorem impl_FileOk_eq (s : ByteArray) (n : Int) : impl_FileOk.f s n = some (fileB s n) := by
  unfold impl_FileOk.f fileB
  split <;> simp [impl_in]

theorem szFile_eq (s : ByteArray) (n left : Int) (h0 : 0 ≤ left ∧ left ≤ 1048576) (hs : s.size ≤ 9223372036854775807) : laws_szFile.f s n left = some (if left - (s.size : Int) < 0 then -1 else left - (s.size : Int)) := by
  unfold laws_szFile.f
  rw [wi (n := left - (s.size : Int)) (by omega)]
  split <;> rfl

theorem FnExactFileOk : laws_FnExactFileOk.Pure := by
  intro s n hs _
  unfold laws_FnExactFileOk.f
  rw [szFile_eq s n _ (by omega) hs]
  simp only [Option.bind_some, toFile_eq, spec_FileOk_eq, impl_FileOk_eq, bne_self_eq_false, Bool.false_eq_true, if_false]
  split <;> rfl

end Go.Proofs.Ytpojogficponhaa.Pure
