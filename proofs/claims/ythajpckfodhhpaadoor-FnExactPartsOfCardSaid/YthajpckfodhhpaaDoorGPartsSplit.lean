/- What strings.Split computes: the shelf's laid contract, told as the printed functions tell theirs; the library's variable internal/bytealg.MaxLen holds some integer. No condition. -/
import Derived.Test.YthajpckfodhhpaaDoorQPartsx0
import Derived.Test.YthajpckfodhhpaaDoorShelf
import Derived.Lib.SplitLaws
namespace Go.Proofs.YthajpckfodhhpaaDoor.QParts
open Go.RowKit Go.Proofs.YthajpckfodhhpaaDoorW.PrintWords Go.Proofs.YthajpckfodhhpaaDoorW.PrintLast
set_option linter.unusedVariables false

/-- The library's variable holds some integer. -/
def SpAt (w : World) : Prop := ∃ m, w.cell? ⟨2, 0, none⟩ = some (.int .i64 m)
theorem SpAt.on {w0 w : World} (h : SpAt w0) (hb : Below w0.heap.size w0 w) : SpAt w := by
  obtain ⟨m, hm⟩ := h
  exact ⟨m, (hb.cell (World.block_lt_of_cell? w0 _ hm)).trans hm⟩
def strings_Split.f (a0 a1 : ByteArray) : Option (List ByteArray) := if a0.size < 4294967281 ∧ 1 ≤ a1.size then some (Lib.splitB a1 0 (Lib.countB a0 a1) a0) else none
theorem strings_Split.calls (a0 a1 : ByteArray) (r : List ByteArray) (w : World) (h : strings_Split.f a0 a1 = some r) (hsp : SpAt w := by exact SpAt.on HSP.out (by repeat (first | (with_reducible first | exact HB.out | exact Below.refl _ _ | apply below_alloc | apply pw_below_drewN | apply below_drew1) | exact HB.out))) :
    Calls Tryd.prog 29 #[.string a0, .string a1] w fun e w' => ∃ v0_ : Value, e = .returned (v0_) ∧ Kd.R Kd.string 9 w' w.heap.size (fun _ => True) v0_ r ∧ Below w.heap.size w w' := by
  unfold strings_Split.f at h
  by_cases c : a0.size < 4294967281 ∧ 1 ≤ a1.size
  · rw [if_pos c] at h
    obtain rfl := Option.some.inj h
    obtain ⟨m, hm⟩ := hsp
    refine (Tryd.strings_Split a0 a1 m w c.1 hm c.2).mono ?_
    rintro e w' ⟨rfl, rfl⟩
    have hl : (Lib.splitB a1 0 (Lib.countB a0 a1) a0).length = Lib.countB a0 a1 + 1 := Lib.splitB_all a1 c.2 0 _ _ rfl
    refine ⟨_, rfl, ?_, below_alloc (Below.refl _ _) _⟩
    refine Kd.R_of_own ?_ (fun _ _ => trivial)
    have ho := own_lit_of (enc := Value.string) w w.heap.size 9 (Lib.splitB a1 0 (Lib.countB a0 a1) a0) (Nat.le_refl _) (by
      have := Lib.countB_le a1 c.2 a0.size a0 (Nat.le_refl _)
      omega)
    rw [← hl]
    exact ho
  · rw [if_neg c] at h; cases h
end Go.Proofs.YthajpckfodhhpaaDoor.QParts
