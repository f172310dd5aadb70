/- What slices.Sort at []int computes, for the walks of this session: the shelf's laid contract, told as the printed functions that write a row tell theirs. No condition. -/
import Derived.Test.YtbanogkoaplcdaaProg
import Derived.Test.YtbanogkoaplcdaaVFnExactMapOfShelf
import Derived.Sort.OwnSortedInts
import Derived.Test.YtbanogkoaplcdaaVFnExactMapOfWWords
import Derived.Test.YtbanogkoaplcdaaVFnExactMapOfWKept
namespace Go.Proofs.Ytbanogkoaplcdaa
open Go.RowKit Go.Proofs.YtbanogkoaplcdaaW.PrintWords
def slices_Sort_int_int.f (l0 : List Int) : Option (List Int) := if l0.length < 4611686018427387904 then some (l0.mergeSort fun x y => decide (x ≤ y)) else none
theorem slices_Sort_int_int.calls (P0_ : Nat → Prop) (u9000_ : Value) (l0 : List Int) (r1 : List Int) (w0 w : World) (hB : Below w0.heap.size w0 w) (ho0 : Kd.R (Kd.int .i64) 3 w w0.heap.size P0_ u9000_ l0) (h : slices_Sort_int_int.f l0 = some r1) :
    Calls Try.prog 92 #[u9000_] w fun e w' => e = .returned (.tuple #[]) ∧ Kd.R (Kd.int .i64) 3 w' w0.heap.size (fun k_ => (P0_ k_ ∨ w.heap.size ≤ k_)) u9000_ r1 ∧ Below w0.heap.size w0 w' ∧ Kept w w' (fun k_ => P0_ k_) := by
  unfold slices_Sort_int_int.f at h
  by_cases c : l0.length < 4611686018427387904
  · rw [if_pos c] at h
    obtain rfl := Option.some.inj h
    have hown := Kd.own_of_R ho0
    have hP := ho0.1
    have hl := List.length_mergeSort (le := fun x y => decide (x ≤ y)) l0
    rcases hown with ⟨hx, ⟨rfl, h0⟩ | ⟨g, cap, cur, rfl, hbase, hb, h1, h2, h3, h4⟩⟩
    · obtain rfl : l0 = [] := List.eq_nil_of_length_eq_zero h0
      refine (Try.slices_Sort_int_none none 0 w).mono ?_
      rintro e w' ⟨rfl, rfl⟩
      exact ⟨rfl, Kd.R_mono (by simpa using ho0) (fun _ hk => .inl hk), hB, Kept.refl _ _⟩
    · rw [Nat.mul_one] at h4
      refine (Try.slices_Sort_int g 0 cap l0 w (holds_of_blockI hb h4) (Array.getElem?_eq_some_iff.1 hb).1 c).mono ?_
      rintro e w' ⟨rfl, n, os, rfl⟩
      have hg := grownBy_sortedI (w := w) (g := g) (n := n) (os := os) (l0.mergeSort fun x y => decide (x ≤ y)).toArray
      refine ⟨rfl, ?_, pw_below_grown hB (some g) hB.size hg (fun k e => by injection e with e; omega), ?_⟩
      · have ho := ownsRow_sortedI (w := w) (n := n) (os := os) (ss := l0) (ts := l0.mergeSort fun x y => decide (x ≤ y)) hl hbase hb h1 h2 h3
        refine Kd.R_of_own ?_ (fun k hk => .inl (hP k hk))
        rw [hl]
        exact ho
      · exact ⟨by simp, fun i hi hn => hg.block i hi (fun e => hn (hP i (by rw [e]; rfl)))⟩
  · rw [if_neg c] at h; cases h
end Go.Proofs.Ytbanogkoaplcdaa
