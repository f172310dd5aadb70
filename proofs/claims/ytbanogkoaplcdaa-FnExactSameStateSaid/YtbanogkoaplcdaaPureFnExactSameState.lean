/- The program's SameState tells of every two states what the reference's SameState tells, and leaves both as they were.
No condition beyond those of the given row. -/
import Derived.Test.YtbanogkoaplcdaaQFnExactSameStatex0
import Derived.Test.YtbanogkoaplcdaaQFnExactSameStatex1
import Derived.Test.YtbanogkoaplcdaaQFnExactSameStatex2
import Derived.Test.YtbanogkoaplcdaaQFnExactSameStatex3
import Derived.Test.YtbanogkoaplcdaaQFnExactSameStatex4
import Derived.Test.YtbanogkoaplcdaaQFnExactSameStatex5
import Derived.Test.YtbanogkoaplcdaaQFnExactSameStatex6
import Derived.Test.YtbanogkoaplcdaaQFnExactSameStatex7
import Derived.Test.YtbanogkoaplcdaaQFnExactSameStatex8
import Derived.Test.YtbanogkoaplcdaaQFnExactSameStatex9
import Derived.Test.YtbanogkoaplcdaaQFnExactSameStatex10
import Derived.Test.YtbanogkoaplcdaaQFnExactSameStatex11
import Derived.Test.YtbanogkoaplcdaaStFnExactSameState
import Derived.Test.YtbanogkoaplcdaaPlain
namespace Go.Proofs.Ytbanogkoaplcdaa.Pure
open Go.RowKit Go.Proofs.Ytbanogkoaplcdaa.QFnExactSameState Go.Proofs.Ytbanogkoaplcdaa.Plain Go.Proofs.YtbanogkoaplcdaaW.PrintWords Go.Proofs.YtbanogkoaplcdaaW.PrintLast Go.Proofs.YtbanogkoaplcdaaW.PrintMore
set_option linter.unusedSimpArgs false
set_option linter.unusedVariables false

/-- No number from i on, d of them, of which g tells a difference. -/
def samF (g : Nat → Bool) : Nat → Nat → Bool
  | 0, _ => true
  | d + 1, i => if g i = true then false else samF g d (i + 1)
theorem samF_zero (g : Nat → Bool) (i : Nat) : samF g 0 i = true := by simp [samF]
theorem samF_pos {g : Nat → Bool} {i : Nat} (d : Nat) (h : g i = true) : samF g (d + 1) i = false := by simp [samF, h]
theorem samF_neg {g : Nat → Bool} {i : Nat} (d : Nat) (h : ¬ g i = true) : samF g (d + 1) i = samF g d (i + 1) := by simp [samF, h]
def neT (x y : S84) : Bool := (!((((x).f0).toList) == (((y).f0).toList)) || (!(((x).f1) == ((y).f1)) || (!(((x).f2) == ((y).f2)))))
def neL (x y : S86) : Bool := (!(((x).f0) == ((y).f0)) || (!((((x).f1).toList) == (((y).f1).toList)) || (!((((x).f2).toList) == (((y).f2).toList)) || (!(((x).f3) == ((y).f3)) || ((!(((x).f4.f0) == ((y).f4.f0)) || (!(((x).f4.f1) == ((y).f4.f1)))))))))
def neC (x y : S73) : Bool := (!((((x).f0).toList) == (((y).f0).toList)) || ((!(((x).f1.f0) == ((y).f1.f0)) || (!(((x).f1.f1) == ((y).f1.f1)))) || (!(((x).f2) == ((y).f2)) || ((!(((x).f3.f0) == ((y).f3.f0)) || (!(((x).f3.f1) == ((y).f3.f1)))) || (!(((x).f4) == ((y).f4)) || (!(((x).f5) == ((y).f5))))))))
def gT (b b' : List S84) (i : Nat) : Bool := neT (rd_T84 b (i : Int)) (rd_T84 b' (i : Int))
def gL (b b' : List S86) (i : Nat) : Bool := neL (rd_T86 b (i : Int)) (rd_T86 b' (i : Int))
def gC (b b' : List S73) (i : Nat) : Bool := neC (rd_T73 b (i : Int)) (rd_T73 b' (i : Int))
/-- Two states are the same. -/
def sameStB (a : List Int) (b : List S84) (c : List S86) (d : List S73) (a' : List Int) (b' : List S84) (c' : List S86) (d' : List S73) : Bool :=
  if a = a' then (if b.length = b'.length then (if samF (gT b b') b.length 0 = true then (if c.length = c'.length then (if samF (gL c c') c.length 0 = true then (if d.length = d'.length then samF (gC d d') d.length 0 else false) else false) else false) else false) else false) else false

def sameActB (a b c : Int) (l : List Int) (d : Int) (s t : ByteArray) (e f g : Int) (a' b' c' : Int) (l' : List Int) (d' : Int) (s' t' : ByteArray) (e' f' g' : Int) : Bool :=
  if (a == a' && (b == b')) = true then (if c = c' then (if l = l' then (if d = d' then (if s.toList = s'.toList then (if t.toList = t'.toList then (if e = e' then (f == f' && (g == g')) else false) else false) else false) else false) else false) else false) else false
theorem rd_ne (l l' : List Int) (i : Nat) (h : i < l.length) (h' : i < l'.length) (hne : rd l (i : Int) ≠ rd l' (i : Int)) : l.drop i ≠ l'.drop i := by
  intro he
  rw [drop_rd l i h, drop_rd l' i h'] at he
  injection he with h1 _
  exact hne h1
theorem rd_eq (l l' : List Int) (i : Nat) (h : i < l.length) (h' : i < l'.length) (he : rd l (i : Int) = rd l' (i : Int)) : (l.drop i = l'.drop i) ↔ (l.drop (i + 1) = l'.drop (i + 1)) := by
  rw [drop_rd l i h, drop_rd l' i h', he]
  simp

theorem l05Same_l0 (l l' : List Int) (hl : l.length ≤ 140737488351232) (he : l.length = l'.length) : ∀ d i, i + d = l.length → Ev (fun k => spec_l05Same.l0 k l l' (i : Int)) (decide (l.drop i = l'.drop i))
  | 0, i, hi => by
    refine Ev.step (fun k => rfl) ?_
    simp only [spec_l05Same.l0, if_neg (show ¬ (i : Int) < (l.length : Int) by omega), List.drop_eq_nil_of_le (show l.length ≤ i by omega), List.drop_eq_nil_of_le (show l'.length ≤ i by omega), decide_true]
    exact Ev.now _
  | d + 1, i, hi => by
    refine Ev.step (fun k => rfl) ?_
    simp only [spec_l05Same.l0, if_pos (show (i : Int) < (l.length : Int) by omega), if_pos (show (i : Int) < (l'.length : Int) by omega), if_pos (show (0 : Int) ≤ (i : Int) by omega), wr i (by omega)]
    by_cases c : rd l (i : Int) = rd l' (i : Int)
    · simp only [if_pos c, rd_eq l l' i (by omega) (by omega) c]
      exact l05Same_l0 l l' hl he d (i + 1) (by omega)
    · simp only [if_neg c, decide_eq_false (rd_ne l l' i (by omega) (by omega) c)]
      exact Ev.now _
theorem l05Same_ev (l l' : List Int) (hl : l.length ≤ 140737488351232) : Ev (fun k => spec_l05Same.f k l l') (decide (l = l')) := by
  unfold spec_l05Same.f
  by_cases c : (l.length : Int) = (l'.length : Int)
  · simp only [if_pos c]
    exact l05Same_l0 l l' hl (by omega) l.length 0 (by omega)
  · simp only [if_neg c]
    have : l ≠ l' := fun h => c (by rw [h])
    rw [decide_eq_false this]; exact Ev.now _

theorem spec_SameState_l2 (a : List Int) (b : List S84) (c : List S86) (d : List S73) (a' : List Int) (b' : List S84) (c' : List S86) (d' : List S73) (hd : d.length ≤ 140737488351232) (ed : d.length = d'.length) : ∀ n i, i + n = d.length → Ev (fun k => spec_SameState.l2 k (i : Int) a b c d a' b' c' d') (samF (gC d d') n i)
  | 0, i, hi => by
    refine Ev.step (fun k => rfl) ?_
    simp only [spec_SameState.l2, if_neg (show ¬ (i : Int) < (d.length : Int) by omega), samF_zero]
    exact Ev.now _
  | n + 1, i, hi => by
    refine Ev.step (fun k => rfl) ?_
    simp only [spec_SameState.l2, if_pos (show (i : Int) < (d.length : Int) by omega), if_pos (show (i : Int) < (d'.length : Int) by omega), if_pos (show (0 : Int) ≤ (i : Int) by omega), wr i (by omega)]
    by_cases q : gC d d' i = true
    · simp only [samF_pos n q, Bool.false_eq_true, if_false]
      unfold gC neC at q
      simp only [if_pos q]
      exact Ev.now _
    · simp only [samF_neg n q]
      unfold gC neC at q
      simp only [if_neg q]
      exact spec_SameState_l2 a b c d a' b' c' d' hd ed n (i + 1) (by omega)
theorem spec_SameState_l1 (a : List Int) (b : List S84) (c : List S86) (d : List S73) (a' : List Int) (b' : List S84) (c' : List S86) (d' : List S73) (hd : d.length ≤ 140737488351232) (ed : d.length = d'.length) (hc : c.length ≤ 140737488351232) (ec : c.length = c'.length) : ∀ n i, i + n = c.length → Ev (fun k => spec_SameState.l1 k (i : Int) a b c d a' b' c' d') (if samF (gL c c') n i = true then samF (gC d d') d.length 0 else false)
  | 0, i, hi => by
    refine Ev.step (fun k => rfl) ?_
    simp only [spec_SameState.l1, if_neg (show ¬ (i : Int) < (c.length : Int) by omega), samF_zero, if_true]
    exact spec_SameState_l2 a b c d a' b' c' d' hd ed d.length 0 (by omega)
  | n + 1, i, hi => by
    refine Ev.step (fun k => rfl) ?_
    simp only [spec_SameState.l1, if_pos (show (i : Int) < (c.length : Int) by omega), if_pos (show (i : Int) < (c'.length : Int) by omega), if_pos (show (0 : Int) ≤ (i : Int) by omega), wr i (by omega)]
    by_cases q : gL c c' i = true
    · simp only [samF_pos n q, Bool.false_eq_true, if_false]
      unfold gL neL at q
      simp only [if_pos q]
      exact Ev.now _
    · simp only [samF_neg n q]
      unfold gL neL at q
      simp only [if_neg q]
      exact spec_SameState_l1 a b c d a' b' c' d' hd ed hc ec n (i + 1) (by omega)
theorem spec_SameState_l0 (a : List Int) (b : List S84) (c : List S86) (d : List S73) (a' : List Int) (b' : List S84) (c' : List S86) (d' : List S73) (hd : d.length ≤ 140737488351232) (ed : d.length = d'.length) (hc : c.length ≤ 140737488351232) (ec : c.length = c'.length) (hb : b.length ≤ 140737488351232) (eb : b.length = b'.length) : ∀ n i, i + n = b.length → Ev (fun k => spec_SameState.l0 k (i : Int) a b c d a' b' c' d') (if samF (gT b b') n i = true then (if samF (gL c c') c.length 0 = true then samF (gC d d') d.length 0 else false) else false)
  | 0, i, hi => by
    refine Ev.step (fun k => rfl) ?_
    simp only [spec_SameState.l0, if_neg (show ¬ (i : Int) < (b.length : Int) by omega), samF_zero, if_true]
    exact spec_SameState_l1 a b c d a' b' c' d' hd ed hc ec c.length 0 (by omega)
  | n + 1, i, hi => by
    refine Ev.step (fun k => rfl) ?_
    simp only [spec_SameState.l0, if_pos (show (i : Int) < (b.length : Int) by omega), if_pos (show (i : Int) < (b'.length : Int) by omega), if_pos (show (0 : Int) ≤ (i : Int) by omega), wr i (by omega)]
    by_cases q : gT b b' i = true
    · simp only [samF_pos n q, Bool.false_eq_true, if_false]
      unfold gT neT at q
      simp only [if_pos q]
      exact Ev.now _
    · simp only [samF_neg n q]
      unfold gT neT at q
      simp only [if_neg q]
      exact spec_SameState_l0 a b c d a' b' c' d' hd ed hc ec hb eb n (i + 1) (by omega)
theorem spec_SameState_j0 (a : List Int) (b : List S84) (c : List S86) (d : List S73) (a' : List Int) (b' : List S84) (c' : List S86) (d' : List S73) : Ev (fun k => spec_SameState.j0 k true a b c d a' b' c' d') false := by
  refine Ev.step (fun k => rfl) ?_
  simp only [spec_SameState.j0, if_true]
  exact Ev.now _
theorem spec_SameState_ev (a : List Int) (b : List S84) (c : List S86) (d : List S73) (a' : List Int) (b' : List S84) (c' : List S86) (d' : List S73)
    (ha : a.length ≤ 140737488351232) (hb : b.length ≤ 140737488351232) (hc : c.length ≤ 140737488351232) (hd : d.length ≤ 140737488351232) : Ev (fun k => spec_SameState.f k a b c d a' b' c' d') (sameStB a b c d a' b' c' d') := by
  unfold spec_SameState.f sameStB
  refine Ev.bind (l05Same_ev a a' ha) ?_
  by_cases c0 : a = a'
  · simp only [decide_eq_true c0, if_pos c0, if_true]
    by_cases c1 : b.length = b'.length
    · simp only [if_pos c1, if_pos (show (b.length : Int) = (b'.length : Int) by omega)]
      by_cases c2 : c.length = c'.length
      · simp only [if_pos c2, if_pos (show (c.length : Int) = (c'.length : Int) by omega)]
        by_cases c3 : d.length = d'.length
        · simp only [if_pos c3, bne_eq_false_iff_eq.mpr (show (d.length : Int) = (d'.length : Int) by omega)]
          refine Ev.step (fun k => rfl) ?_
          simp only [spec_SameState.j0, Bool.false_eq_true, if_false]
          exact spec_SameState_l0 a b c d a' b' c' d' hd c3 hc c2 hb c1 b.length 0 (by omega)
        · simp only [if_neg c3, bne_iff_ne.mpr (show (d.length : Int) ≠ (d'.length : Int) by omega), ite_self]
          exact spec_SameState_j0 a b c d a' b' c' d'
      · simp only [if_neg c2, if_neg (show ¬ (c.length : Int) = (c'.length : Int) by omega), ite_self]
        exact spec_SameState_j0 a b c d a' b' c' d'
    · simp only [if_neg c1, if_neg (show ¬ (b.length : Int) = (b'.length : Int) by omega)]
      exact spec_SameState_j0 a b c d a' b' c' d'
  · simp only [decide_eq_false c0, if_neg c0, Bool.false_eq_true, if_false]
    exact spec_SameState_j0 a b c d a' b' c' d'

theorem slicesEqual_l0 (l l' : List Int) (hl : l.length ≤ 140737488351232) (he : l.length = l'.length) : ∀ d i, i + d = l.length → Ev (fun k => slices_Equal_int_int.l0 k l l' (l.length : Int) (i : Int)) (decide (l.drop i = l'.drop i))
  | 0, i, hi => by
    refine Ev.step (fun k => rfl) ?_
    simp only [slices_Equal_int_int.l0, if_neg (show ¬ (i : Int) < (l.length : Int) by omega), List.drop_eq_nil_of_le (show l.length ≤ i by omega), List.drop_eq_nil_of_le (show l'.length ≤ i by omega), decide_true]
    exact Ev.now _
  | d + 1, i, hi => by
    refine Ev.step (fun k => rfl) ?_
    simp only [slices_Equal_int_int.l0, if_pos (show (i : Int) < (l.length : Int) by omega), if_pos (show (i : Int) < (l'.length : Int) by omega), if_pos (show (0 : Int) ≤ (i : Int) by omega), wr i (by omega)]
    by_cases c : rd l (i : Int) = rd l' (i : Int)
    · simp only [if_pos c, rd_eq l l' i (by omega) (by omega) c]
      exact slicesEqual_l0 l l' hl he d (i + 1) (by omega)
    · simp only [if_neg c, decide_eq_false (rd_ne l l' i (by omega) (by omega) c)]
      exact Ev.now _
theorem slicesEqual_ev (l l' : List Int) (hl : l.length ≤ 140737488351232) : Ev (fun k => slices_Equal_int_int.f k l l') (decide (l = l')) := by
  unfold slices_Equal_int_int.f
  by_cases c : (l.length : Int) = (l'.length : Int)
  · simp only [if_pos c]
    exact slicesEqual_l0 l l' hl (by omega) l.length 0 (by omega)
  · simp only [if_neg c]
    have : l ≠ l' := fun h => c (by rw [h])
    rw [decide_eq_false this]; exact Ev.now _

theorem impl_Tally_l0 (b b' : List S84) (hb : b.length ≤ 140737488351232) (he : b.length = b'.length) : ∀ d i, i + d = b.length → Ev (fun k => impl_Tally.l0 k b b' (b.length : Int) (i : Int)) (samF (gT b b') d i)
  | 0, i, hi => by
    refine Ev.step (fun k => rfl) ?_
    simp only [impl_Tally.l0, if_neg (show ¬ (i : Int) < (b.length : Int) by omega), samF_zero]
    exact Ev.now _
  | d + 1, i, hi => by
    refine Ev.step (fun k => rfl) ?_
    simp only [impl_Tally.l0, if_pos (show (i : Int) < (b.length : Int) by omega), if_pos (show (i : Int) < (b'.length : Int) by omega), if_pos (show (0 : Int) ≤ (i : Int) by omega), wr i (by omega)]
    by_cases c : gT b b' i = true
    · simp only [samF_pos d c]
      unfold gT neT at c
      simp only [if_pos c]
      exact Ev.now _
    · simp only [samF_neg d c]
      unfold gT neT at c
      simp only [if_neg c]
      exact impl_Tally_l0 b b' hb he d (i + 1) (by omega)
theorem impl_Tally_ev (b b' : List S84) (hb : b.length ≤ 140737488351232) : Ev (fun k => impl_Tally.f k b b') (if b.length = b'.length then samF (gT b b') b.length 0 else false) := by
  unfold impl_Tally.f
  by_cases c : b.length = b'.length
  · simp only [if_pos c, if_pos (show (b.length : Int) = (b'.length : Int) by omega)]
    exact impl_Tally_l0 b b' hb c b.length 0 (by omega)
  · simp only [if_neg c, if_neg (show ¬ (b.length : Int) = (b'.length : Int) by omega)]
    exact Ev.now _
theorem impl_Live_l0 (b b' : List S86) (hb : b.length ≤ 140737488351232) (he : b.length = b'.length) : ∀ d i, i + d = b.length → Ev (fun k => impl_Live.l0 k b b' (b.length : Int) (i : Int)) (samF (gL b b') d i)
  | 0, i, hi => by
    refine Ev.step (fun k => rfl) ?_
    simp only [impl_Live.l0, if_neg (show ¬ (i : Int) < (b.length : Int) by omega), samF_zero]
    exact Ev.now _
  | d + 1, i, hi => by
    refine Ev.step (fun k => rfl) ?_
    simp only [impl_Live.l0, if_pos (show (i : Int) < (b.length : Int) by omega), if_pos (show (i : Int) < (b'.length : Int) by omega), if_pos (show (0 : Int) ≤ (i : Int) by omega), wr i (by omega)]
    by_cases c : gL b b' i = true
    · simp only [samF_pos d c]
      unfold gL neL at c
      simp only [if_pos c]
      exact Ev.now _
    · simp only [samF_neg d c]
      unfold gL neL at c
      simp only [if_neg c]
      exact impl_Live_l0 b b' hb he d (i + 1) (by omega)
theorem impl_Live_ev (b b' : List S86) (hb : b.length ≤ 140737488351232) : Ev (fun k => impl_Live.f k b b') (if b.length = b'.length then samF (gL b b') b.length 0 else false) := by
  unfold impl_Live.f
  by_cases c : b.length = b'.length
  · simp only [if_pos c, if_pos (show (b.length : Int) = (b'.length : Int) by omega)]
    exact impl_Live_l0 b b' hb c b.length 0 (by omega)
  · simp only [if_neg c, if_neg (show ¬ (b.length : Int) = (b'.length : Int) by omega)]
    exact Ev.now _
theorem impl_Cell_l0 (b b' : List S73) (hb : b.length ≤ 140737488351232) (he : b.length = b'.length) : ∀ d i, i + d = b.length → Ev (fun k => impl_Cell.l0 k b b' (b.length : Int) (i : Int)) (samF (gC b b') d i)
  | 0, i, hi => by
    refine Ev.step (fun k => rfl) ?_
    simp only [impl_Cell.l0, if_neg (show ¬ (i : Int) < (b.length : Int) by omega), samF_zero]
    exact Ev.now _
  | d + 1, i, hi => by
    refine Ev.step (fun k => rfl) ?_
    simp only [impl_Cell.l0, if_pos (show (i : Int) < (b.length : Int) by omega), if_pos (show (i : Int) < (b'.length : Int) by omega), if_pos (show (0 : Int) ≤ (i : Int) by omega), wr i (by omega)]
    by_cases c : gC b b' i = true
    · simp only [samF_pos d c]
      unfold gC neC at c
      simp only [if_pos c]
      exact Ev.now _
    · simp only [samF_neg d c]
      unfold gC neC at c
      simp only [if_neg c]
      exact impl_Cell_l0 b b' hb he d (i + 1) (by omega)
theorem impl_Cell_ev (b b' : List S73) (hb : b.length ≤ 140737488351232) : Ev (fun k => impl_Cell.f k b b') (if b.length = b'.length then samF (gC b b') b.length 0 else false) := by
  unfold impl_Cell.f
  by_cases c : b.length = b'.length
  · simp only [if_pos c, if_pos (show (b.length : Int) = (b'.length : Int) by omega)]
    exact impl_Cell_l0 b b' hb c b.length 0 (by omega)
  · simp only [if_neg c, if_neg (show ¬ (b.length : Int) = (b'.length : Int) by omega)]
    exact Ev.now _
theorem impl_SameState_ev (a : List Int) (b : List S84) (c : List S86) (d : List S73) (a' : List Int) (b' : List S84) (c' : List S86) (d' : List S73)
    (ha : a.length ≤ 140737488351232) (hb : b.length ≤ 140737488351232) (hc : c.length ≤ 140737488351232) (hd : d.length ≤ 140737488351232) : Ev (fun k => impl_SameState.f k a b c d a' b' c' d') (sameStB a b c d a' b' c' d') := by
  unfold impl_SameState.f sameStB
  refine Ev.bind (slicesEqual_ev a a' ha) ?_
  by_cases c0 : a = a'
  · simp only [decide_eq_true c0, if_pos c0, if_true]
    refine Ev.bind (impl_Tally_ev b b' hb) ?_
    by_cases c1 : b.length = b'.length
    · simp only [if_pos c1]
      by_cases c2 : samF (gT b b') b.length 0 = true
      · simp only [if_pos c2]
        refine Ev.bind (impl_Live_ev c c' hc) ?_
        by_cases c3 : c.length = c'.length
        · simp only [if_pos c3]
          by_cases c4 : samF (gL c c') c.length 0 = true
          · simp only [if_pos c4]
            exact Ev.bind (impl_Cell_ev d d' hd) (Ev.now _)
          · simp only [if_neg c4]; exact Ev.now _
        · simp only [if_neg c3, Bool.false_eq_true, if_false]; exact Ev.now _
      · simp only [if_neg c2]; exact Ev.now _
    · simp only [if_neg c1, Bool.false_eq_true, if_false]; exact Ev.now _
  · simp only [decide_eq_false c0, if_neg c0, Bool.false_eq_true, if_false]; exact Ev.now _

theorem rdL_Tally (l : List S112) (i : Nat) : rd_T112 l (i : Int) = l.getD i z112 := by unfold rd_T112; rw [Int.toNat_natCast]
theorem rdI_Tally (l : List S84) (i : Nat) : rd_T84 l (i : Int) = l.getD i z84 := by unfold rd_T84; rw [Int.toNat_natCast]

theorem szTally_ex (x : S112) (h0_ : x.f0.size ≤ 9223372036854775807) (left : Int) (h0 : 0 ≤ left ∧ left ≤ 1048576) : ∃ r, laws_szTally.f (x.f0) (x.f1) (x.f2) left = some r ∧ (r < 0 ∨ 0 ≤ r ∧ r ≤ left) := by
  unfold laws_szTally.f
  rw [wi (n := left - (x.f0.size : Int)) (by omega)]
  by_cases c : left - (x.f0.size : Int) < 0
  · exact ⟨-1, by rw [if_pos c], Or.inl (by omega)⟩
  · exact ⟨left - (x.f0.size : Int), by rw [if_neg c], Or.inr (by omega)⟩
theorem szTallyS_l0 (l : List S112) (hl : l.length ≤ 140737488351232) (hG : ∀ x ∈ l, G112 x) : ∀ d i left, i + d = l.length → (0 ≤ left ∧ left ≤ 1048576) → ∃ r, Ev (fun k => laws_szTallyS.l0 k l left (i : Int)) r ∧ (r < 0 ∨ 0 ≤ r ∧ r ≤ left)
  | 0, i, left, hi, h0 => ⟨left, by
    refine Ev.step (fun k => rfl) ?_
    simp only [laws_szTallyS.l0, if_neg (show ¬ (i : Int) < (l.length : Int) by omega)]
    exact Ev.now _, Or.inr (by omega)⟩
  | d + 1, i, left, hi, h0 => by
    have hm : l.getD i z112 ∈ l := by rw [getD_get l i _ (by omega)]; exact List.getElem_mem _
    have hg := hG _ hm
    obtain ⟨r, hr, hc⟩ := szTally_ex (l.getD i z112) hg.1 left h0
    by_cases c : r < 0
    · refine ⟨-1, ?_, Or.inl (by omega)⟩
      refine Ev.step (fun k => rfl) ?_
      simp only [laws_szTallyS.l0, if_pos (show (i : Int) < (l.length : Int) by omega), if_pos (show (0 : Int) ≤ (i : Int) by omega), rdL_Tally, hr, Option.bind_some, if_pos c]
      exact Ev.now _
    · obtain ⟨q, hq, hc2⟩ := szTallyS_l0 l hl hG d (i + 1) r (by omega) (by omega)
      refine ⟨q, ?_, by omega⟩
      refine Ev.step (fun k => rfl) ?_
      simp only [laws_szTallyS.l0, if_pos (show (i : Int) < (l.length : Int) by omega), if_pos (show (0 : Int) ≤ (i : Int) by omega), rdL_Tally, hr, Option.bind_some, if_neg c, wr i (by omega)]
      exact hq
theorem szTallyS_ex (l : List S112) (hl : l.length ≤ 9223372036854775807) (hG : ∀ x ∈ l, G112 x) (left : Int) (h0 : 0 ≤ left ∧ left ≤ 1048576) : ∃ r, Ev (fun k => laws_szTallyS.f k l left) r ∧ (r < 0 ∨ (0 ≤ r ∧ r ≤ left ∧ (l.length : Int) ≤ left)) := by
  unfold laws_szTallyS.f
  rw [wi (n := left - (l.length : Int)) (by omega)]
  by_cases c : left - (l.length : Int) < 0
  · exact ⟨-1, by simp only [if_pos c]; exact Ev.now _, Or.inl (by omega)⟩
  · obtain ⟨r, hr, hc⟩ := szTallyS_l0 l (by omega) hG l.length 0 (left - (l.length : Int)) (by omega) (by omega)
    exact ⟨r, by simp only [if_neg c]; exact hr, by omega⟩

theorem rdL_Live (l : List S115) (i : Nat) : rd_T115 l (i : Int) = l.getD i z115 := by unfold rd_T115; rw [Int.toNat_natCast]
theorem rdI_Live (l : List S86) (i : Nat) : rd_T86 l (i : Int) = l.getD i z86 := by unfold rd_T86; rw [Int.toNat_natCast]

theorem szLive_ex (x : S115) (h0_ : x.f1.size ≤ 9223372036854775807) (h1_ : x.f2.size ≤ 9223372036854775807) (left : Int) (h0 : 0 ≤ left ∧ left ≤ 1048576) : ∃ r, laws_szLive.f (x.f0) (x.f1) (x.f2) (x.f3) (x.f4.f0) (x.f4.f1) left = some r ∧ (r < 0 ∨ 0 ≤ r ∧ r ≤ left) := by
  unfold laws_szLive.f
  rw [wi (n := left - (x.f1.size : Int)) (by omega)]
  by_cases c : left - (x.f1.size : Int) < 0
  · exact ⟨-1, by rw [if_pos c], Or.inl (by omega)⟩
  · rw [if_neg c, wi (n := left - (x.f1.size : Int) - (x.f2.size : Int)) (by omega)]
    by_cases c2 : left - (x.f1.size : Int) - (x.f2.size : Int) < 0
    · exact ⟨-1, by rw [if_pos c2], Or.inl (by omega)⟩
    · exact ⟨_, by rw [if_neg c2], Or.inr (by omega)⟩
theorem szLiveS_l0 (l : List S115) (hl : l.length ≤ 140737488351232) (hG : ∀ x ∈ l, G115 x) : ∀ d i left, i + d = l.length → (0 ≤ left ∧ left ≤ 1048576) → ∃ r, Ev (fun k => laws_szLiveS.l0 k l left (i : Int)) r ∧ (r < 0 ∨ 0 ≤ r ∧ r ≤ left)
  | 0, i, left, hi, h0 => ⟨left, by
    refine Ev.step (fun k => rfl) ?_
    simp only [laws_szLiveS.l0, if_neg (show ¬ (i : Int) < (l.length : Int) by omega)]
    exact Ev.now _, Or.inr (by omega)⟩
  | d + 1, i, left, hi, h0 => by
    have hm : l.getD i z115 ∈ l := by rw [getD_get l i _ (by omega)]; exact List.getElem_mem _
    have hg := hG _ hm
    obtain ⟨r, hr, hc⟩ := szLive_ex (l.getD i z115) hg.2.1 hg.2.2.1 left h0
    by_cases c : r < 0
    · refine ⟨-1, ?_, Or.inl (by omega)⟩
      refine Ev.step (fun k => rfl) ?_
      simp only [laws_szLiveS.l0, if_pos (show (i : Int) < (l.length : Int) by omega), if_pos (show (0 : Int) ≤ (i : Int) by omega), rdL_Live, hr, Option.bind_some, if_pos c]
      exact Ev.now _
    · obtain ⟨q, hq, hc2⟩ := szLiveS_l0 l hl hG d (i + 1) r (by omega) (by omega)
      refine ⟨q, ?_, by omega⟩
      refine Ev.step (fun k => rfl) ?_
      simp only [laws_szLiveS.l0, if_pos (show (i : Int) < (l.length : Int) by omega), if_pos (show (0 : Int) ≤ (i : Int) by omega), rdL_Live, hr, Option.bind_some, if_neg c, wr i (by omega)]
      exact hq
theorem szLiveS_ex (l : List S115) (hl : l.length ≤ 9223372036854775807) (hG : ∀ x ∈ l, G115 x) (left : Int) (h0 : 0 ≤ left ∧ left ≤ 1048576) : ∃ r, Ev (fun k => laws_szLiveS.f k l left) r ∧ (r < 0 ∨ (0 ≤ r ∧ r ≤ left ∧ (l.length : Int) ≤ left)) := by
  unfold laws_szLiveS.f
  rw [wi (n := left - (l.length : Int)) (by omega)]
  by_cases c : left - (l.length : Int) < 0
  · exact ⟨-1, by simp only [if_pos c]; exact Ev.now _, Or.inl (by omega)⟩
  · obtain ⟨r, hr, hc⟩ := szLiveS_l0 l (by omega) hG l.length 0 (left - (l.length : Int)) (by omega) (by omega)
    exact ⟨r, by simp only [if_neg c]; exact hr, by omega⟩

theorem rdL_Cell (l : List S118) (i : Nat) : rd_T118 l (i : Int) = l.getD i z118 := by unfold rd_T118; rw [Int.toNat_natCast]
theorem rdI_Cell (l : List S73) (i : Nat) : rd_T73 l (i : Int) = l.getD i z73 := by unfold rd_T73; rw [Int.toNat_natCast]

theorem szCell_ex (x : S118) (h0_ : x.f0.size ≤ 9223372036854775807) (left : Int) (h0 : 0 ≤ left ∧ left ≤ 1048576) : ∃ r, laws_szCell.f (x.f0) (x.f1.f0) (x.f1.f1) (x.f2) (x.f3.f0) (x.f3.f1) (x.f4) (x.f5) left = some r ∧ (r < 0 ∨ 0 ≤ r ∧ r ≤ left) := by
  unfold laws_szCell.f
  rw [wi (n := left - (x.f0.size : Int)) (by omega)]
  by_cases c : left - (x.f0.size : Int) < 0
  · exact ⟨-1, by rw [if_pos c], Or.inl (by omega)⟩
  · exact ⟨left - (x.f0.size : Int), by rw [if_neg c], Or.inr (by omega)⟩
theorem szCellS_l0 (l : List S118) (hl : l.length ≤ 140737488351232) (hG : ∀ x ∈ l, G118 x) : ∀ d i left, i + d = l.length → (0 ≤ left ∧ left ≤ 1048576) → ∃ r, Ev (fun k => laws_szCellS.l0 k l left (i : Int)) r ∧ (r < 0 ∨ 0 ≤ r ∧ r ≤ left)
  | 0, i, left, hi, h0 => ⟨left, by
    refine Ev.step (fun k => rfl) ?_
    simp only [laws_szCellS.l0, if_neg (show ¬ (i : Int) < (l.length : Int) by omega)]
    exact Ev.now _, Or.inr (by omega)⟩
  | d + 1, i, left, hi, h0 => by
    have hm : l.getD i z118 ∈ l := by rw [getD_get l i _ (by omega)]; exact List.getElem_mem _
    have hg := hG _ hm
    obtain ⟨r, hr, hc⟩ := szCell_ex (l.getD i z118) hg.1 left h0
    by_cases c : r < 0
    · refine ⟨-1, ?_, Or.inl (by omega)⟩
      refine Ev.step (fun k => rfl) ?_
      simp only [laws_szCellS.l0, if_pos (show (i : Int) < (l.length : Int) by omega), if_pos (show (0 : Int) ≤ (i : Int) by omega), rdL_Cell, hr, Option.bind_some, if_pos c]
      exact Ev.now _
    · obtain ⟨q, hq, hc2⟩ := szCellS_l0 l hl hG d (i + 1) r (by omega) (by omega)
      refine ⟨q, ?_, by omega⟩
      refine Ev.step (fun k => rfl) ?_
      simp only [laws_szCellS.l0, if_pos (show (i : Int) < (l.length : Int) by omega), if_pos (show (0 : Int) ≤ (i : Int) by omega), rdL_Cell, hr, Option.bind_some, if_neg c, wr i (by omega)]
      exact hq
theorem szCellS_ex (l : List S118) (hl : l.length ≤ 9223372036854775807) (hG : ∀ x ∈ l, G118 x) (left : Int) (h0 : 0 ≤ left ∧ left ≤ 1048576) : ∃ r, Ev (fun k => laws_szCellS.f k l left) r ∧ (r < 0 ∨ (0 ≤ r ∧ r ≤ left ∧ (l.length : Int) ≤ left)) := by
  unfold laws_szCellS.f
  rw [wi (n := left - (l.length : Int)) (by omega)]
  by_cases c : left - (l.length : Int) < 0
  · exact ⟨-1, by simp only [if_pos c]; exact Ev.now _, Or.inl (by omega)⟩
  · obtain ⟨r, hr, hc⟩ := szCellS_l0 l (by omega) hG l.length 0 (left - (l.length : Int)) (by omega) (by omega)
    exact ⟨r, by simp only [if_neg c]; exact hr, by omega⟩

theorem szState_ex (a : List Int) (b : List S112) (c : List S115) (d : List S118) (ha : a.length ≤ 9223372036854775807) (hb : b.length ≤ 9223372036854775807 ∧ ∀ x ∈ b, G112 x) (hc : c.length ≤ 9223372036854775807 ∧ ∀ x ∈ c, G115 x) (hd : d.length ≤ 9223372036854775807 ∧ ∀ x ∈ d, G118 x)
    (left : Int) (h0 : 0 ≤ left ∧ left ≤ 1048576) : ∃ r, Ev (fun k => laws_szState.f k a b c d left) r ∧ (r < 0 ∨ (0 ≤ r ∧ r ≤ left ∧ (a.length : Int) ≤ left ∧ (b.length : Int) ≤ left ∧ (c.length : Int) ≤ left ∧ (d.length : Int) ≤ left)) := by
  unfold laws_szState.f laws_szIntS.f
  rw [wi (n := left - (a.length : Int)) (by omega)]
  by_cases c1 : left - (a.length : Int) < 0
  · exact ⟨-1, by simp only [if_pos c1, Option.bind_some, if_pos (show (-1 : Int) < 0 by omega)]; exact Ev.now _, Or.inl (by omega)⟩
  simp only [if_neg c1, Option.bind_some]
  obtain ⟨r1, e1, q1⟩ := szTallyS_ex b hb.1 hb.2 (left - (a.length : Int)) (by omega)
  by_cases c2 : r1 < 0
  · exact ⟨-1, Ev.bind e1 (by simp only [if_pos c2]; exact Ev.now _), Or.inl (by omega)⟩
  obtain ⟨r2, e2, q2⟩ := szLiveS_ex c hc.1 hc.2 r1 (by omega)
  by_cases c3 : r2 < 0
  · exact ⟨-1, Ev.bind e1 (by simp only [if_neg c2]; exact Ev.bind e2 (by simp only [if_pos c3]; exact Ev.now _)), Or.inl (by omega)⟩
  obtain ⟨r3, e3, q3⟩ := szCellS_ex d hd.1 hd.2 r2 (by omega)
  by_cases c4 : r3 < 0
  · exact ⟨-1, Ev.bind e1 (by simp only [if_neg c2]; exact Ev.bind e2 (by simp only [if_neg c3]; exact Ev.bind e3 (by simp only [if_pos c4]; exact Ev.now _))), Or.inl (by omega)⟩
  · exact ⟨r3, Ev.bind e1 (by simp only [if_neg c2]; exact Ev.bind e2 (by simp only [if_neg c3]; exact Ev.bind e3 (by simp only [if_neg c4]; exact Ev.now _))), Or.inr (by omega)⟩

theorem toIntS_l0 (l : List Int) (hl : l.length ≤ 140737488351232) : ∀ d i, i + d = l.length → Ev (fun k => laws_toIntS.l0 k l (l.take i ++ List.replicate d 0) (i : Int)) l
  | 0, i, hi => by
    refine Ev.step (fun k => rfl) ?_
    simp only [laws_toIntS.l0, if_neg (show ¬ (i : Int) < (l.length : Int) by omega)]
    rw [show l.take i ++ List.replicate 0 0 = l by rw [List.take_of_length_le (by omega)]; simp]
    exact Ev.now _
  | d + 1, i, hi => by
    refine Ev.step (fun k => rfl) ?_
    have ih := toIntS_l0 l hl d (i + 1) (by omega)
    have e : (l.take i ++ List.replicate (d + 1) 0).set (i : Int).toNat (rd l (i : Int)) = l.take (i + 1) ++ List.replicate d 0 := take_set l 0 i d (by omega)
    simp only [laws_toIntS.l0, if_pos (show (i : Int) < (l.length : Int) by omega), if_pos (show (0 : Int) ≤ (i : Int) by omega), wr i (by omega),
      if_pos (show (i : Int) < ((l.take i ++ List.replicate (d + 1) 0).length : Int) by rw [List.length_append, List.length_take, List.length_replicate]; omega), e]
    exact ih
theorem toIntS_ev (l : List Int) (hl : l.length ≤ 17592186043904) : Ev (fun k => laws_toIntS.f k l) l := by
  unfold laws_toIntS.f
  simp only [if_pos (show (0 : Int) ≤ (l.length : Int) by omega), Int.toNat_natCast, if_pos (show l.length ≤ 35184372088832 by omega)]
  exact toIntS_l0 l (by omega) l.length 0 (by omega)

theorem toDot_eq (r s : Int) : laws_toDot.f r s = some (r, s) := rfl

def toTallyC (x : S112) : S84 := ⟨x.f0, x.f1, x.f2⟩
theorem toTallyS_l0 (l : List S112) (hl : l.length ≤ 140737488351232) : ∀ d i, i + d = l.length → Ev (fun k => laws_toTallyS.l0 k l ((l.map toTallyC).take i ++ List.replicate d z84) (i : Int)) (l.map toTallyC)
  | 0, i, hi => by
    refine Ev.step (fun k => rfl) ?_
    simp only [laws_toTallyS.l0, if_neg (show ¬ (i : Int) < (l.length : Int) by omega)]
    rw [show (l.map toTallyC).take i ++ List.replicate 0 z84 = l.map toTallyC by rw [List.take_of_length_le (by rw [List.length_map]; omega)]; simp]
    exact Ev.now _
  | d + 1, i, hi => by
    refine Ev.step (fun k => rfl) ?_
    have ih := toTallyS_l0 l hl d (i + 1) (by omega)
    have e := set_mid (l.map toTallyC) z84 (toTallyC (l.getD i z112)) i d (by rw [List.length_map]; omega) (by rw [List.getElem_map, getD_get l i _ (by omega)])
    simp only [laws_toTallyS.l0, if_pos (show (i : Int) < (l.length : Int) by omega), if_pos (show (0 : Int) ≤ (i : Int) by omega), wr i (by omega), rdL_Tally, laws_toTally.f, Option.bind_some,
      if_pos (show (i : Int) < (((l.map toTallyC).take i ++ List.replicate (d + 1) z84).length : Int) by rw [List.length_append, List.length_take, List.length_replicate, List.length_map]; omega)]
    rw [show (⟨(l.getD i z112).f0, (l.getD i z112).f1, (l.getD i z112).f2⟩ : S84) = toTallyC (l.getD i z112) from rfl, e]
    exact ih
theorem toTallyS_ev (l : List S112) (hl : l.length ≤ 1048576) : Ev (fun k => laws_toTallyS.f k l) (l.map toTallyC) := by
  unfold laws_toTallyS.f
  simp only [if_pos (show (0 : Int) ≤ (l.length : Int) by omega), Int.toNat_natCast, if_pos (show l.length ≤ 8796093022208 by omega)]
  exact toTallyS_l0 l (by omega) l.length 0 (by omega)

def toLiveC (x : S115) : S86 := ⟨x.f0, x.f1, x.f2, x.f3, ⟨x.f4.f0, x.f4.f1⟩⟩
theorem toLiveS_l0 (l : List S115) (hl : l.length ≤ 140737488351232) : ∀ d i, i + d = l.length → Ev (fun k => laws_toLiveS.l0 k l ((l.map toLiveC).take i ++ List.replicate d z86) (i : Int)) (l.map toLiveC)
  | 0, i, hi => by
    refine Ev.step (fun k => rfl) ?_
    simp only [laws_toLiveS.l0, if_neg (show ¬ (i : Int) < (l.length : Int) by omega)]
    rw [show (l.map toLiveC).take i ++ List.replicate 0 z86 = l.map toLiveC by rw [List.take_of_length_le (by rw [List.length_map]; omega)]; simp]
    exact Ev.now _
  | d + 1, i, hi => by
    refine Ev.step (fun k => rfl) ?_
    have ih := toLiveS_l0 l hl d (i + 1) (by omega)
    have e := set_mid (l.map toLiveC) z86 (toLiveC (l.getD i z115)) i d (by rw [List.length_map]; omega) (by rw [List.getElem_map, getD_get l i _ (by omega)])
    simp only [laws_toLiveS.l0, if_pos (show (i : Int) < (l.length : Int) by omega), if_pos (show (0 : Int) ≤ (i : Int) by omega), wr i (by omega), rdL_Live, laws_toLive.f, toDot_eq, Option.bind_some,
      if_pos (show (i : Int) < (((l.map toLiveC).take i ++ List.replicate (d + 1) z86).length : Int) by rw [List.length_append, List.length_take, List.length_replicate, List.length_map]; omega)]
    rw [show (⟨(l.getD i z115).f0, (l.getD i z115).f1, (l.getD i z115).f2, (l.getD i z115).f3, ⟨(l.getD i z115).f4.f0, (l.getD i z115).f4.f1⟩⟩ : S86) = toLiveC (l.getD i z115) from rfl, e]
    exact ih
theorem toLiveS_ev (l : List S115) (hl : l.length ≤ 1048576) : Ev (fun k => laws_toLiveS.f k l) (l.map toLiveC) := by
  unfold laws_toLiveS.f
  simp only [if_pos (show (0 : Int) ≤ (l.length : Int) by omega), Int.toNat_natCast, if_pos (show l.length ≤ 4398046511104 by omega)]
  exact toLiveS_l0 l (by omega) l.length 0 (by omega)

def toCellC (x : S118) : S73 := ⟨x.f0, ⟨x.f1.f0, x.f1.f1⟩, x.f2, ⟨x.f3.f0, x.f3.f1⟩, x.f4, x.f5⟩
theorem toCellS_l0 (l : List S118) (hl : l.length ≤ 140737488351232) : ∀ d i, i + d = l.length → Ev (fun k => laws_toCellS.l0 k l ((l.map toCellC).take i ++ List.replicate d z73) (i : Int)) (l.map toCellC)
  | 0, i, hi => by
    refine Ev.step (fun k => rfl) ?_
    simp only [laws_toCellS.l0, if_neg (show ¬ (i : Int) < (l.length : Int) by omega)]
    rw [show (l.map toCellC).take i ++ List.replicate 0 z73 = l.map toCellC by rw [List.take_of_length_le (by rw [List.length_map]; omega)]; simp]
    exact Ev.now _
  | d + 1, i, hi => by
    refine Ev.step (fun k => rfl) ?_
    have ih := toCellS_l0 l hl d (i + 1) (by omega)
    have e := set_mid (l.map toCellC) z73 (toCellC (l.getD i z118)) i d (by rw [List.length_map]; omega) (by rw [List.getElem_map, getD_get l i _ (by omega)])
    simp only [laws_toCellS.l0, if_pos (show (i : Int) < (l.length : Int) by omega), if_pos (show (0 : Int) ≤ (i : Int) by omega), wr i (by omega), rdL_Cell, laws_toCell.f, toDot_eq, Option.bind_some,
      if_pos (show (i : Int) < (((l.map toCellC).take i ++ List.replicate (d + 1) z73).length : Int) by rw [List.length_append, List.length_take, List.length_replicate, List.length_map]; omega)]
    rw [show (⟨(l.getD i z118).f0, ⟨(l.getD i z118).f1.f0, (l.getD i z118).f1.f1⟩, (l.getD i z118).f2, ⟨(l.getD i z118).f3.f0, (l.getD i z118).f3.f1⟩, (l.getD i z118).f4, (l.getD i z118).f5⟩ : S73) = toCellC (l.getD i z118) from rfl, e]
    exact ih
theorem toCellS_ev (l : List S118) (hl : l.length ≤ 1048576) : Ev (fun k => laws_toCellS.f k l) (l.map toCellC) := by
  unfold laws_toCellS.f
  simp only [if_pos (show (0 : Int) ≤ (l.length : Int) by omega), Int.toNat_natCast, if_pos (show l.length ≤ 3909374676536 by omega)]
  exact toCellS_l0 l (by omega) l.length 0 (by omega)

theorem toState_ev (a : List Int) (b : List S112) (c : List S115) (d : List S118) (ha : a.length ≤ 1048576) (hb : b.length ≤ 1048576) (hc : c.length ≤ 1048576) (hd : d.length ≤ 1048576) :
    Ev (fun k => laws_toState.f k a b c d) (a, b.map toTallyC, c.map toLiveC, d.map toCellC) := by
  unfold laws_toState.f
  exact Ev.bind (toIntS_ev a (by omega)) (Ev.bind (toTallyS_ev b hb) (Ev.bind (toLiveS_ev c hc) (Ev.bind (toCellS_ev d hd) (Ev.now _))))

theorem eqIntS_l0 (l : List Int) (hl : l.length ≤ 140737488351232) : ∀ d i, i + d = l.length → Ev (fun k => laws_eqIntS.l0 k l l (i : Int)) true
  | 0, i, hi => by
    refine Ev.step (fun k => rfl) ?_
    simp only [laws_eqIntS.l0, if_neg (show ¬ (i : Int) < (l.length : Int) by omega)]
    exact Ev.now _
  | d + 1, i, hi => by
    refine Ev.step (fun k => rfl) ?_
    simp only [laws_eqIntS.l0, if_pos (show (i : Int) < (l.length : Int) by omega), if_pos (show (0 : Int) ≤ (i : Int) by omega), if_true, wr i (by omega)]
    exact eqIntS_l0 l hl d (i + 1) (by omega)
theorem eqIntS_ev (l : List Int) (hl : l.length ≤ 140737488351232) : Ev (fun k => laws_eqIntS.f k l l) true := by
  unfold laws_eqIntS.f
  simp only [if_true]
  exact eqIntS_l0 l hl l.length 0 (by omega)

theorem eqDot_refl (r s : Int) : laws_eqDot.f r s r s = some true := by simp [laws_eqDot.f]

theorem eqTally_refl (x : S84) : laws_eqTally.f (x.f0) (x.f1) (x.f2) (x.f0) (x.f1) (x.f2) = some true := by simp [laws_eqTally.f]
theorem eqTallyS_l0 (l : List S84) (hl : l.length ≤ 140737488351232) : ∀ d i, i + d = l.length → Ev (fun k => laws_eqTallyS.l0 k l l (i : Int)) true
  | 0, i, hi => by
    refine Ev.step (fun k => rfl) ?_
    simp only [laws_eqTallyS.l0, if_neg (show ¬ (i : Int) < (l.length : Int) by omega)]
    exact Ev.now _
  | d + 1, i, hi => by
    refine Ev.step (fun k => rfl) ?_
    simp only [laws_eqTallyS.l0, if_pos (show (i : Int) < (l.length : Int) by omega), if_pos (show (0 : Int) ≤ (i : Int) by omega), eqTally_refl, Option.bind_some, if_true, wr i (by omega)]
    exact eqTallyS_l0 l hl d (i + 1) (by omega)
theorem eqTallyS_ev (l : List S84) (hl : l.length ≤ 140737488351232) : Ev (fun k => laws_eqTallyS.f k l l) true := by
  unfold laws_eqTallyS.f
  simp only [if_true]
  exact eqTallyS_l0 l hl l.length 0 (by omega)

theorem eqLive_refl (x : S86) : laws_eqLive.f (x.f0) (x.f1) (x.f2) (x.f3) (x.f4.f0) (x.f4.f1) (x.f0) (x.f1) (x.f2) (x.f3) (x.f4.f0) (x.f4.f1) = some true := by simp [laws_eqLive.f, eqDot_refl]
theorem eqLiveS_l0 (l : List S86) (hl : l.length ≤ 140737488351232) : ∀ d i, i + d = l.length → Ev (fun k => laws_eqLiveS.l0 k l l (i : Int)) true
  | 0, i, hi => by
    refine Ev.step (fun k => rfl) ?_
    simp only [laws_eqLiveS.l0, if_neg (show ¬ (i : Int) < (l.length : Int) by omega)]
    exact Ev.now _
  | d + 1, i, hi => by
    refine Ev.step (fun k => rfl) ?_
    simp only [laws_eqLiveS.l0, if_pos (show (i : Int) < (l.length : Int) by omega), if_pos (show (0 : Int) ≤ (i : Int) by omega), eqLive_refl, Option.bind_some, if_true, wr i (by omega)]
    exact eqLiveS_l0 l hl d (i + 1) (by omega)
theorem eqLiveS_ev (l : List S86) (hl : l.length ≤ 140737488351232) : Ev (fun k => laws_eqLiveS.f k l l) true := by
  unfold laws_eqLiveS.f
  simp only [if_true]
  exact eqLiveS_l0 l hl l.length 0 (by omega)

theorem eqCell_refl (x : S73) : laws_eqCell.f (x.f0) (x.f1.f0) (x.f1.f1) (x.f2) (x.f3.f0) (x.f3.f1) (x.f4) (x.f5) (x.f0) (x.f1.f0) (x.f1.f1) (x.f2) (x.f3.f0) (x.f3.f1) (x.f4) (x.f5) = some true := by simp [laws_eqCell.f, eqDot_refl]
theorem eqCellS_l0 (l : List S73) (hl : l.length ≤ 140737488351232) : ∀ d i, i + d = l.length → Ev (fun k => laws_eqCellS.l0 k l l (i : Int)) true
  | 0, i, hi => by
    refine Ev.step (fun k => rfl) ?_
    simp only [laws_eqCellS.l0, if_neg (show ¬ (i : Int) < (l.length : Int) by omega)]
    exact Ev.now _
  | d + 1, i, hi => by
    refine Ev.step (fun k => rfl) ?_
    simp only [laws_eqCellS.l0, if_pos (show (i : Int) < (l.length : Int) by omega), if_pos (show (0 : Int) ≤ (i : Int) by omega), eqCell_refl, Option.bind_some, if_true, wr i (by omega)]
    exact eqCellS_l0 l hl d (i + 1) (by omega)
theorem eqCellS_ev (l : List S73) (hl : l.length ≤ 140737488351232) : Ev (fun k => laws_eqCellS.f k l l) true := by
  unfold laws_eqCellS.f
  simp only [if_true]
  exact eqCellS_l0 l hl l.length 0 (by omega)

theorem eqState_ev (a : List Int) (b : List S84) (c : List S86) (d : List S73) (ha : a.length ≤ 140737488351232) (hb : b.length ≤ 140737488351232) (hc : c.length ≤ 140737488351232) (hd : d.length ≤ 140737488351232) :
    Ev (fun k => laws_eqState.f k a b c d a b c d) true := by
  unfold laws_eqState.f
  refine Ev.bind (eqIntS_ev a ha) ?_
  simp only [if_true]
  refine Ev.bind (eqTallyS_ev b hb) ?_
  simp only [if_true]
  refine Ev.bind (eqLiveS_ev c hc) ?_
  simp only [if_true]
  exact Ev.bind (eqCellS_ev d hd) (Ev.now _)

theorem FnExactSameState : laws_FnExactSameState.Pure := by
  intro a b c d a' b' c' d' ha hb hc hd ha' hb' hc' hd'
  refine Ev.rounds ?_
  unfold laws_FnExactSameState.f
  obtain ⟨z, hz, hl⟩ := szState_ex a b c d ha.1 hb hc hd 1048576 (by omega)
  refine Ev.bind hz ?_
  by_cases h2 : z < 0
  · simp only [if_pos h2]; exact Ev.now _
  simp only [if_neg h2]
  obtain ⟨y, hy, hl'⟩ := szState_ex a' b' c' d' ha'.1 hb' hc' hd' z (by omega)
  refine Ev.bind hy ?_
  by_cases h3 : y < 0
  · simp only [if_pos h3]; exact Ev.now _
  simp only [if_neg h3]
  have t := toState_ev a b c d (by omega) (by omega) (by omega) (by omega)
  have t' := toState_ev a' b' c' d' (by omega) (by omega) (by omega) (by omega)
  have e := eqState_ev a (b.map toTallyC) (c.map toLiveC) (d.map toCellC) (by omega) (by rw [List.length_map]; omega) (by rw [List.length_map]; omega) (by rw [List.length_map]; omega)
  have e' := eqState_ev a' (b'.map toTallyC) (c'.map toLiveC) (d'.map toCellC) (by omega) (by rw [List.length_map]; omega) (by rw [List.length_map]; omega) (by rw [List.length_map]; omega)
  refine Ev.bind t (Ev.bind t' (Ev.bind (spec_SameState_ev a (b.map toTallyC) (c.map toLiveC) (d.map toCellC) a' (b'.map toTallyC) (c'.map toLiveC) (d'.map toCellC) (by omega) (by rw [List.length_map]; omega) (by rw [List.length_map]; omega) (by rw [List.length_map]; omega)) ?_))
  refine Ev.bind t (Ev.bind t' (Ev.bind (impl_SameState_ev a (b.map toTallyC) (c.map toLiveC) (d.map toCellC) a' (b'.map toTallyC) (c'.map toLiveC) (d'.map toCellC) (by omega) (by rw [List.length_map]; omega) (by rw [List.length_map]; omega) (by rw [List.length_map]; omega)) ?_))
  simp only [bne_self_eq_false, Bool.false_eq_true, if_false]
  refine Ev.bind t (Ev.bind e ?_)
  simp only [if_true]
  refine Ev.bind t' (Ev.bind e' ?_)
  simp only [if_true]
  exact Ev.now _

end Go.Proofs.Ytbanogkoaplcdaa.Pure
