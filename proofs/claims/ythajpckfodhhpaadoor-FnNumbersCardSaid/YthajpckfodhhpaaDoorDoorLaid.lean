/- What the rows' listed variables give the walks, and a world in which they lie as listed. No condition. -/
import Derived.Test.YthajpckfodhhpaaDoorRows
import Derived.Test.YthajpckfodhhpaaDoorGiven
import Derived.LaidMore
import Derived.LaidLaws
import Derived.MakeChecks
import Derived.Lib.LaidTab
import Derived.Stop.LaidErr
import Derived.ProofKit
namespace Go.Proofs.YthajpckfodhhpaaDoor
open Go.ChangeShapes Go.WideShapes Go.ChangeAt Go.RowKit
set_option maxRecDepth 100000

def laid3 : List (String × DataW Unit) := [("math/bits.deBruijn32tab", Rows.laid_math_bits_deBruijn32tab), ("math/bits.deBruijn64tab", Rows.laid_math_bits_deBruijn64tab), ("internal/strconv.uint64pow10", Rows.laid_internal_strconv_uint64pow10)]
def laid5 : List (String × DataW Unit) := [("math/bits.deBruijn32tab", Rows.laid_math_bits_deBruijn32tab), ("math/bits.deBruijn64tab", Rows.laid_math_bits_deBruijn64tab), ("internal/strconv.uint64pow10", Rows.laid_internal_strconv_uint64pow10), ("strconv.ErrRange", Rows.laid_strconv_ErrRange), ("strconv.ErrSyntax", Rows.laid_strconv_ErrSyntax)]
theorem gTab : Tryd.prog.globalNamed "internal/strconv.uint64pow10" = some 3 := by kernel_rfl
theorem tTab : (Tryd.prog.globals[3]?).map (·.type) = some 91 := by kernel_rfl
theorem tab_data : (Rows.laid_internal_strconv_uint64pow10 : DataW Unit) = Lib.tabData .u64 Lib.pow10Tab := by kernel_rfl
theorem tab_of {r : List (String × DataW Unit)} {W : World} (h : laidMet Tryd.prog (("internal/strconv.uint64pow10", Rows.laid_internal_strconv_uint64pow10) :: r) W) : TabAt W := by
  rw [tab_data] at h
  exact Lib.tabIs_of_head gTab tTab Tryd.underlying91 Tryd.underlying75 (by kernel_rfl) (by kernel_rfl) h
theorem tab_of3 {W : World} (h : laidMetH Tryd.prog laid3 W) : TabAt W := by
  rw [MakeChecks.laidMetH_plain _ _ _ (by kernel_rfl)] at h
  exact tab_of (laidMet.tail (laidMet.tail h))
theorem tab_of5 {W : World} (h : laidMetH Tryd.prog laid5 W) : TabAt W := by
  rw [MakeChecks.laidMetH_plain _ _ _ (by kernel_rfl)] at h
  exact tab_of (laidMet.tail (laidMet.tail h))
theorem gRange : Tryd.prog.globalNamed "strconv.ErrRange" = some 1 := by kernel_rfl
theorem tRange : (Tryd.prog.globals[1]?).map (·.type) = some 45 := by kernel_rfl
theorem gSyntax : Tryd.prog.globalNamed "strconv.ErrSyntax" = some 0 := by kernel_rfl
theorem tSyntax : (Tryd.prog.globals[0]?).map (·.type) = some 45 := by kernel_rfl
theorem rowErr (u : TypeId) (hu : Tryd.prog.typeName? 3 u = some "*errors.errorString") : u = 97 := typeName_ptr_named (nm := "errors.errorString") (by kernel_rfl) (by kernel_rfl) (by decide) u hu
theorem errs_of5 {W : World} (h : laidMetH Tryd.prog laid5 W) : ErrsAt W := by
  rw [MakeChecks.laidMetH_plain _ _ _ (by kernel_rfl)] at h
  have h3 := laidMet.tail (laidMet.tail (laidMet.tail h))
  obtain ⟨a1, _, hv1, _, _, _⟩ := laid_sentinel h3 gRange tRange Tryd.underlying45 rowErr Tryd.underlying97 Tryd.underlying99 rfl rfl Tryd.underlying9 (by kernel_rfl) (by kernel_rfl)
  obtain ⟨a2, _, hv2, _, _, _⟩ := laid_sentinel (laidMet.tail h3) gSyntax tSyntax Tryd.underlying45 rowErr Tryd.underlying97 Tryd.underlying99 rfl rfl Tryd.underlying9 (by kernel_rfl) (by kernel_rfl)
  exact ⟨⟨_, _, hv2⟩, _, _, hv1⟩
noncomputable def doorW3 (os : Os) : World := World.doorLaid Tryd.prog 72 os
noncomputable def doorW5 (os : Os) : World := World.doorLaid Tryd.prog 72 os
theorem door_met3 (os : Os) (args : Array Value) : laidMetH Tryd.prog laid3 ((doorW3 os).forCall (fun _ _ => 0) ⟨#[], args, []⟩).memory :=
  laidMetH_of_parts3 (fuel := 8) (laidMet_of_run' 8 (by kernel_rfl) (by kernel_rfl)) (by kernel_rfl) (by kernel_rfl)
theorem door_met5 (os : Os) (args : Array Value) : laidMetH Tryd.prog laid5 ((doorW5 os).forCall (fun _ _ => 0) ⟨#[], args, []⟩).memory :=
  laidMetH_of_parts3 (fuel := 8) (laidMet_of_run' 8 (by kernel_rfl) (by kernel_rfl)) (by kernel_rfl) (by kernel_rfl)
end Go.Proofs.YthajpckfodhhpaaDoor
