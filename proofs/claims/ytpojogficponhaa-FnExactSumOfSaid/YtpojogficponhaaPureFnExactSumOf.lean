/- The program's SumOf tells of every text what the reference's SumOf tells.
No condition beyond those of the given row. -/
import Derived.Test.YtpojogficponhaaPFnExactSumOfx0
import Derived.Test.YtpojogficponhaaPFnExactSumOfx1
import Derived.Test.YtpojogficponhaaPlain
namespace Go.Proofs.Ytpojogficponhaa.Pure
open Go.RowKit Go.Proofs.Ytpojogficponhaa.PFnExactSumOf Go.Proofs.Ytpojogficponhaa.Plain Go.Proofs.YtpojogficponhaaW.PrintWords Go.Proofs.YtpojogficponhaaW.PrintLast

/-- One step of the sum, told as the program has it. -/
def crc1 (x : Int) : Int := if Int.tmod x 2 = 1 then Go.bits .xor .u32 ((Int.tdiv x 2) % 4294967296) 3558460437 else (Int.tdiv x 2) % 4294967296
def crcN : Nat → Int → Int
  | 0, x => x
  | n + 1, x => crcN n (crc1 x)
/-- The sum behind d bytes from byte i on. -/
def crcB (s : ByteArray) : Nat → Nat → Int → Int
  | 0, _, x => x
  | d + 1, i, x => crcB s d (i + 1) (crcN 8 (Go.bits .xor .u32 x ((bt s (i : Int)) % 4294967296)))

theorem spec_SumMore_l1 (s : ByteArray) (i : Nat) (hi : i < 4611686018427387904) (r : Int) : ∀ (d j : Nat) (x : Int), j + d = 8 → Ev (fun k => spec_SumMore.l0 k (crcN d x) s ((i + 1 : Nat) : Int)) r → Ev (fun k => spec_SumMore.l1 k x s (i : Int) (j : Int)) r
  | 0, j, x, hj, h => by
    refine Ev.step (fun k => rfl) ?_
    simp only [spec_SumMore.l1, if_neg (show ¬ (j : Int) < 8 by omega), wr i hi]
    exact h
  | d + 1, j, x, hj, h => by
    refine Ev.step (fun k => rfl) ?_
    have ih := spec_SumMore_l1 s i hi r d (j + 1) (crc1 x) (by omega) h
    simp only [spec_SumMore.l1, if_pos (show (j : Int) < 8 by omega), wr j (by omega)]
    by_cases c : Int.tmod x 2 = 1
    · simp only [if_pos c]
      simpa only [crc1, if_pos c] using ih
    · simp only [if_neg c]
      simpa only [crc1, if_neg c] using ih
theorem spec_SumMore_l0 (s : ByteArray) (hs : s.size ≤ 140737488351232) : ∀ d i x, i + d = s.size → Ev (fun k => spec_SumMore.l0 k x s (i : Int)) (crcB s d i x)
  | 0, i, x, hi => by
    refine Ev.step (fun k => rfl) ?_
    simp only [spec_SumMore.l0, if_neg (show ¬ (i : Int) < (s.size : Int) by omega)]
    exact Ev.now _
  | d + 1, i, x, hi => by
    refine Ev.step (fun k => rfl) ?_
    simp only [spec_SumMore.l0, if_pos (show (i : Int) < (s.size : Int) by omega), if_pos (show (0 : Int) ≤ (i : Int) by omega)]
    exact spec_SumMore_l1 s i (by omega) _ 8 0 _ rfl (spec_SumMore_l0 s hs d (i + 1) _ (by omega))
theorem spec_SumMore_ev (x : Int) (s : ByteArray) (hs : s.size ≤ 140737488351232) : Ev (fun k => spec_SumMore.f k x s) (crcB s s.size 0 x) := spec_SumMore_l0 s hs s.size 0 x (by omega)

theorem spec_SumOf_ev (s : ByteArray) (hs : s.size ≤ 140737488351232) : Ev (fun k => spec_SumOf.f k s) (crcB s s.size 0 4294967295) := by
  unfold spec_SumOf.f
  exact Ev.bind (spec_SumMore_ev _ s hs) (Ev.now _)

theorem impl_SumMore_l1 (s : ByteArray) (i : Nat) (hi : i < 4611686018427387904) (r : Int) : ∀ (d j : Nat) (x : Int), j + d = 8 → Ev (fun k => impl_SumMore.l0 k (crcN d x) s ((i + 1 : Nat) : Int)) r → Ev (fun k => impl_SumMore.l1 k x s (i : Int) (j : Int)) r
  | 0, j, x, hj, h => by
    refine Ev.step (fun k => rfl) ?_
    simp only [impl_SumMore.l1, if_neg (show ¬ (j : Int) < 8 by omega), wr i hi]
    exact h
  | d + 1, j, x, hj, h => by
    refine Ev.step (fun k => rfl) ?_
    have ih := impl_SumMore_l1 s i hi r d (j + 1) (crc1 x) (by omega) h
    simp only [impl_SumMore.l1, if_pos (show (j : Int) < 8 by omega), wr j (by omega)]
    by_cases c : Int.tmod x 2 = 1
    · simp only [if_pos c]
      simpa only [crc1, if_pos c] using ih
    · simp only [if_neg c]
      simpa only [crc1, if_neg c] using ih
theorem impl_SumMore_l0 (s : ByteArray) (hs : s.size ≤ 140737488351232) : ∀ d i x, i + d = s.size → Ev (fun k => impl_SumMore.l0 k x s (i : Int)) (crcB s d i x)
  | 0, i, x, hi => by
    refine Ev.step (fun k => rfl) ?_
    simp only [impl_SumMore.l0, if_neg (show ¬ (i : Int) < (s.size : Int) by omega)]
    exact Ev.now _
  | d + 1, i, x, hi => by
    refine Ev.step (fun k => rfl) ?_
    simp only [impl_SumMore.l0, if_pos (show (i : Int) < (s.size : Int) by omega), if_pos (show (0 : Int) ≤ (i : Int) by omega)]
    exact impl_SumMore_l1 s i (by omega) _ 8 0 _ rfl (impl_SumMore_l0 s hs d (i + 1) _ (by omega))
theorem impl_SumMore_ev (x : Int) (s : ByteArray) (hs : s.size ≤ 140737488351232) : Ev (fun k => impl_SumMore.f k x s) (crcB s s.size 0 x) := impl_SumMore_l0 s hs s.size 0 x (by omega)

theorem impl_SumOf_ev (s : ByteArray) (hs : s.size ≤ 140737488351232) : Ev (fun k => impl_SumOf.f k s) (crcB s s.size 0 4294967295) := by
  unfold impl_SumOf.f
  exact Ev.bind (impl_SumMore_ev _ s hs) (Ev.now _)

theorem FnExactSumOf : laws_FnExactSumOf.Pure := by
  intro s hs
  refine Ev.rounds ?_
  unfold laws_FnExactSumOf.f
  by_cases h : (s.size : Int) > 1048576
  · simp only [if_pos h]; exact Ev.now _
  · simp only [if_neg h]
    refine Ev.bind (spec_SumOf_ev s hs) (Ev.bind (impl_SumOf_ev s hs) ?_)
    simp only [if_true]
    exact Ev.now _

end Go.Proofs.Ytpojogficponhaa.Pure
