/- The program's StateOk tells of every state what the reference's StateOk tells, and leaves the state as it was.
No condition beyond those of the given row. -/
import Derived.Test.YtbanogkoaplcdaaVFnExactStateOkQSOkx0
import Derived.Test.YtbanogkoaplcdaaVFnExactStateOkQSOkx1
import Derived.Test.YtbanogkoaplcdaaVFnExactStateOkQSOkx2
import Derived.Test.YtbanogkoaplcdaaVFnExactStateOkQSOkx3
import Derived.Test.YtbanogkoaplcdaaVFnExactStateOkQSOkx4
import Derived.Test.YtbanogkoaplcdaaVFnExactStateOkQSOkx5
import Derived.Test.YtbanogkoaplcdaaVFnExactStateOkQSOkx6
import Derived.Test.YtbanogkoaplcdaaVFnExactStateOkQSOkx7
import Derived.Test.YtbanogkoaplcdaaVFnExactStateOkQSOkx8
import Derived.Test.YtbanogkoaplcdaaVFnExactStateOkQSOkx9
import Derived.Test.YtbanogkoaplcdaaVFnExactStateOkQSOkx10
import Derived.Test.YtbanogkoaplcdaaVFnExactStateOkQSOkx11
import Derived.Test.YtbanogkoaplcdaaVFnExactStateOkQSOkx12
import Derived.Test.YtbanogkoaplcdaaVFnExactStateOkQSOkx13
import Derived.Test.YtbanogkoaplcdaaVFnExactStateOkQSOkx14
import Derived.Test.YtbanogkoaplcdaaVFnExactStateOkQSOkx15
import Derived.Test.YtbanogkoaplcdaaVFnExactStateOkQSOkx16
import Derived.Test.YtbanogkoaplcdaaVFnExactStateOkQSOkx17
import Derived.Test.YtbanogkoaplcdaaVFnExactStateOkSt
import Derived.Test.YtbanogkoaplcdaaVFnExactStateOkPlain
namespace Go.Proofs.Ytbanogkoaplcdaa.Pure
open Go.RowKit Go.Proofs.Ytbanogkoaplcdaa.QSOk Go.Proofs.Ytbanogkoaplcdaa.Plain Go.Proofs.YtbanogkoaplcdaaW.PrintWords Go.Proofs.YtbanogkoaplcdaaW.PrintLast Go.Proofs.YtbanogkoaplcdaaW.PrintMore
set_option linter.unusedSimpArgs false
set_option linter.unusedVariables false
theorem rdL_Tally (l : List S112) (i : Nat) : rd_T112 l (i : Int) = l.getD i z112 := by unfold rd_T112; rw [Int.toNat_natCast]
theorem rdI_Tally (l : List S84) (i : Nat) : rd_T84 l (i : Int) = l.getD i z84 := by unfold rd_T84; rw [Int.toNat_natCast]
def txTally (m : Int) (x : S112) : Prop := (x.f0.size : Int) ≤ m
theorem txTally_mono {m m' : Int} (h : m ≤ m') {x : S112} (hx : txTally m x) : txTally m' x := by unfold txTally at *; omega
theorem txTally_ex (x : S112) (h0_ : x.f0.size ≤ 9223372036854775807) (left : Int) (h0 : 0 ≤ left ∧ left ≤ 1048576) : ∃ r, laws_szTally.f (x.f0) (x.f1) (x.f2) left = some r ∧ (r < 0 ∨ 0 ≤ r ∧ r ≤ left ∧ txTally left x) := by
  unfold laws_szTally.f
  rw [wi (n := left - (x.f0.size : Int)) (by omega)]
  by_cases c : left - (x.f0.size : Int) < 0
  · exact ⟨-1, by rw [if_pos c], Or.inl (by omega)⟩
  · exact ⟨left - (x.f0.size : Int), by rw [if_neg c], Or.inr ⟨by omega, by omega, by unfold txTally; omega⟩⟩
theorem txTallyS_l0 (l : List S112) (hl : l.length ≤ 140737488351232) (hG : ∀ x ∈ l, G112 x) : ∀ d i left, i + d = l.length → (0 ≤ left ∧ left ≤ 1048576) → ∃ r, Ev (fun k => laws_szTallyS.l0 k l left (i : Int)) r ∧ (r < 0 ∨ 0 ≤ r ∧ r ≤ left ∧ ∀ x ∈ l.drop i, txTally left x)
  | 0, i, left, hi, h0 => ⟨left, by
    refine Ev.step (fun k => rfl) ?_
    simp only [laws_szTallyS.l0, if_neg (show ¬ (i : Int) < (l.length : Int) by omega)]
    exact Ev.now _, Or.inr ⟨by omega, by omega, by rw [List.drop_eq_nil_of_le (by omega)]; simp⟩⟩
  | d + 1, i, left, hi, h0 => by
    have hm : l.getD i z112 ∈ l := by rw [getD_get l i _ (by omega)]; exact List.getElem_mem _
    have hg := hG _ hm
    obtain ⟨r, hr, hc⟩ := txTally_ex (l.getD i z112) hg.1 left h0
    by_cases c : r < 0
    · refine ⟨-1, ?_, Or.inl (by omega)⟩
      refine Ev.step (fun k => rfl) ?_
      simp only [laws_szTallyS.l0, if_pos (show (i : Int) < (l.length : Int) by omega), if_pos (show (0 : Int) ≤ (i : Int) by omega), rdL_Tally, hr, Option.bind_some, if_pos c]
      exact Ev.now _
    · obtain ⟨q, hq, hc2⟩ := txTallyS_l0 l hl hG d (i + 1) r (by omega) (by omega)
      refine ⟨q, ?_, ?_⟩
      · refine Ev.step (fun k => rfl) ?_
        simp only [laws_szTallyS.l0, if_pos (show (i : Int) < (l.length : Int) by omega), if_pos (show (0 : Int) ≤ (i : Int) by omega), rdL_Tally, hr, Option.bind_some, if_neg c, wr i (by omega)]
        exact hq
      · rcases hc2 with h | ⟨h1, h2, h3⟩
        · exact Or.inl h
        · have hc' : 0 ≤ r ∧ r ≤ left ∧ txTally left (l.getD i z112) := hc.resolve_left c
          refine Or.inr ⟨h1, by omega, ?_⟩
          rw [drop_getD l i z112 (by omega)]
          intro x hx
          rcases List.mem_cons.1 hx with rfl | hx
          · exact hc'.2.2
          · exact txTally_mono hc'.2.1 (h3 x hx)
theorem txTallyS_ex (l : List S112) (hl : l.length ≤ 9223372036854775807) (hG : ∀ x ∈ l, G112 x) (left : Int) (h0 : 0 ≤ left ∧ left ≤ 1048576) : ∃ r, Ev (fun k => laws_szTallyS.f k l left) r ∧ (r < 0 ∨ (0 ≤ r ∧ r ≤ left ∧ (l.length : Int) ≤ left ∧ ∀ x ∈ l, txTally left x)) := by
  unfold laws_szTallyS.f
  rw [wi (n := left - (l.length : Int)) (by omega)]
  by_cases c : left - (l.length : Int) < 0
  · exact ⟨-1, by simp only [if_pos c]; exact Ev.now _, Or.inl (by omega)⟩
  · obtain ⟨r, hr, hc⟩ := txTallyS_l0 l (by omega) hG l.length 0 (left - (l.length : Int)) (by omega) (by omega)
    refine ⟨r, by simp only [if_neg c]; exact hr, ?_⟩
    rcases hc with h | ⟨h1, h2, h3⟩
    · exact Or.inl h
    · exact Or.inr ⟨h1, by omega, by omega, fun x hx => txTally_mono (by omega) (h3 x (by simpa using hx))⟩
theorem rdL_Live (l : List S115) (i : Nat) : rd_T115 l (i : Int) = l.getD i z115 := by unfold rd_T115; rw [Int.toNat_natCast]
theorem rdI_Live (l : List S86) (i : Nat) : rd_T86 l (i : Int) = l.getD i z86 := by unfold rd_T86; rw [Int.toNat_natCast]
def txLive (m : Int) (x : S115) : Prop := (x.f1.size : Int) ≤ m ∧ (x.f2.size : Int) ≤ m
theorem txLive_mono {m m' : Int} (h : m ≤ m') {x : S115} (hx : txLive m x) : txLive m' x := by unfold txLive at *; omega
theorem txLive_ex (x : S115) (h0_ : x.f1.size ≤ 9223372036854775807) (h1_ : x.f2.size ≤ 9223372036854775807) (left : Int) (h0 : 0 ≤ left ∧ left ≤ 1048576) : ∃ r, laws_szLive.f (x.f0) (x.f1) (x.f2) (x.f3) (x.f4.f0) (x.f4.f1) left = some r ∧ (r < 0 ∨ 0 ≤ r ∧ r ≤ left ∧ txLive left x) := by
  unfold laws_szLive.f
  rw [wi (n := left - (x.f1.size : Int)) (by omega)]
  by_cases c : left - (x.f1.size : Int) < 0
  · exact ⟨-1, by rw [if_pos c], Or.inl (by omega)⟩
  · rw [if_neg c, wi (n := left - (x.f1.size : Int) - (x.f2.size : Int)) (by omega)]
    by_cases c2 : left - (x.f1.size : Int) - (x.f2.size : Int) < 0
    · exact ⟨-1, by rw [if_pos c2], Or.inl (by omega)⟩
    · exact ⟨_, by rw [if_neg c2], Or.inr ⟨by omega, by omega, by unfold txLive; omega⟩⟩
theorem txLiveS_l0 (l : List S115) (hl : l.length ≤ 140737488351232) (hG : ∀ x ∈ l, G115 x) : ∀ d i left, i + d = l.length → (0 ≤ left ∧ left ≤ 1048576) → ∃ r, Ev (fun k => laws_szLiveS.l0 k l left (i : Int)) r ∧ (r < 0 ∨ 0 ≤ r ∧ r ≤ left ∧ ∀ x ∈ l.drop i, txLive left x)
  | 0, i, left, hi, h0 => ⟨left, by
    refine Ev.step (fun k => rfl) ?_
    simp only [laws_szLiveS.l0, if_neg (show ¬ (i : Int) < (l.length : Int) by omega)]
    exact Ev.now _, Or.inr ⟨by omega, by omega, by rw [List.drop_eq_nil_of_le (by omega)]; simp⟩⟩
  | d + 1, i, left, hi, h0 => by
    have hm : l.getD i z115 ∈ l := by rw [getD_get l i _ (by omega)]; exact List.getElem_mem _
    have hg := hG _ hm
    obtain ⟨r, hr, hc⟩ := txLive_ex (l.getD i z115) hg.2.1 hg.2.2.1 left h0
    by_cases c : r < 0
    · refine ⟨-1, ?_, Or.inl (by omega)⟩
      refine Ev.step (fun k => rfl) ?_
      simp only [laws_szLiveS.l0, if_pos (show (i : Int) < (l.length : Int) by omega), if_pos (show (0 : Int) ≤ (i : Int) by omega), rdL_Live, hr, Option.bind_some, if_pos c]
      exact Ev.now _
    · obtain ⟨q, hq, hc2⟩ := txLiveS_l0 l hl hG d (i + 1) r (by omega) (by omega)
      refine ⟨q, ?_, ?_⟩
      · refine Ev.step (fun k => rfl) ?_
        simp only [laws_szLiveS.l0, if_pos (show (i : Int) < (l.length : Int) by omega), if_pos (show (0 : Int) ≤ (i : Int) by omega), rdL_Live, hr, Option.bind_some, if_neg c, wr i (by omega)]
        exact hq
      · rcases hc2 with h | ⟨h1, h2, h3⟩
        · exact Or.inl h
        · have hc' : 0 ≤ r ∧ r ≤ left ∧ txLive left (l.getD i z115) := hc.resolve_left c
          refine Or.inr ⟨h1, by omega, ?_⟩
          rw [drop_getD l i z115 (by omega)]
          intro x hx
          rcases List.mem_cons.1 hx with rfl | hx
          · exact hc'.2.2
          · exact txLive_mono hc'.2.1 (h3 x hx)
theorem txLiveS_ex (l : List S115) (hl : l.length ≤ 9223372036854775807) (hG : ∀ x ∈ l, G115 x) (left : Int) (h0 : 0 ≤ left ∧ left ≤ 1048576) : ∃ r, Ev (fun k => laws_szLiveS.f k l left) r ∧ (r < 0 ∨ (0 ≤ r ∧ r ≤ left ∧ (l.length : Int) ≤ left ∧ ∀ x ∈ l, txLive left x)) := by
  unfold laws_szLiveS.f
  rw [wi (n := left - (l.length : Int)) (by omega)]
  by_cases c : left - (l.length : Int) < 0
  · exact ⟨-1, by simp only [if_pos c]; exact Ev.now _, Or.inl (by omega)⟩
  · obtain ⟨r, hr, hc⟩ := txLiveS_l0 l (by omega) hG l.length 0 (left - (l.length : Int)) (by omega) (by omega)
    refine ⟨r, by simp only [if_neg c]; exact hr, ?_⟩
    rcases hc with h | ⟨h1, h2, h3⟩
    · exact Or.inl h
    · exact Or.inr ⟨h1, by omega, by omega, fun x hx => txLive_mono (by omega) (h3 x (by simpa using hx))⟩
theorem rdL_Cell (l : List S118) (i : Nat) : rd_T118 l (i : Int) = l.getD i z118 := by unfold rd_T118; rw [Int.toNat_natCast]
theorem rdI_Cell (l : List S73) (i : Nat) : rd_T73 l (i : Int) = l.getD i z73 := by unfold rd_T73; rw [Int.toNat_natCast]
def txCell (m : Int) (x : S118) : Prop := (x.f0.size : Int) ≤ m
theorem txCell_mono {m m' : Int} (h : m ≤ m') {x : S118} (hx : txCell m x) : txCell m' x := by unfold txCell at *; omega
theorem txCell_ex (x : S118) (h0_ : x.f0.size ≤ 9223372036854775807) (left : Int) (h0 : 0 ≤ left ∧ left ≤ 1048576) : ∃ r, laws_szCell.f (x.f0) (x.f1.f0) (x.f1.f1) (x.f2) (x.f3.f0) (x.f3.f1) (x.f4) (x.f5) left = some r ∧ (r < 0 ∨ 0 ≤ r ∧ r ≤ left ∧ txCell left x) := by
  unfold laws_szCell.f
  rw [wi (n := left - (x.f0.size : Int)) (by omega)]
  by_cases c : left - (x.f0.size : Int) < 0
  · exact ⟨-1, by rw [if_pos c], Or.inl (by omega)⟩
  · exact ⟨left - (x.f0.size : Int), by rw [if_neg c], Or.inr ⟨by omega, by omega, by unfold txCell; omega⟩⟩
theorem txCellS_l0 (l : List S118) (hl : l.length ≤ 140737488351232) (hG : ∀ x ∈ l, G118 x) : ∀ d i left, i + d = l.length → (0 ≤ left ∧ left ≤ 1048576) → ∃ r, Ev (fun k => laws_szCellS.l0 k l left (i : Int)) r ∧ (r < 0 ∨ 0 ≤ r ∧ r ≤ left ∧ ∀ x ∈ l.drop i, txCell left x)
  | 0, i, left, hi, h0 => ⟨left, by
    refine Ev.step (fun k => rfl) ?_
    simp only [laws_szCellS.l0, if_neg (show ¬ (i : Int) < (l.length : Int) by omega)]
    exact Ev.now _, Or.inr ⟨by omega, by omega, by rw [List.drop_eq_nil_of_le (by omega)]; simp⟩⟩
  | d + 1, i, left, hi, h0 => by
    have hm : l.getD i z118 ∈ l := by rw [getD_get l i _ (by omega)]; exact List.getElem_mem _
    have hg := hG _ hm
    obtain ⟨r, hr, hc⟩ := txCell_ex (l.getD i z118) hg.1 left h0
    by_cases c : r < 0
    · refine ⟨-1, ?_, Or.inl (by omega)⟩
      refine Ev.step (fun k => rfl) ?_
      simp only [laws_szCellS.l0, if_pos (show (i : Int) < (l.length : Int) by omega), if_pos (show (0 : Int) ≤ (i : Int) by omega), rdL_Cell, hr, Option.bind_some, if_pos c]
      exact Ev.now _
    · obtain ⟨q, hq, hc2⟩ := txCellS_l0 l hl hG d (i + 1) r (by omega) (by omega)
      refine ⟨q, ?_, ?_⟩
      · refine Ev.step (fun k => rfl) ?_
        simp only [laws_szCellS.l0, if_pos (show (i : Int) < (l.length : Int) by omega), if_pos (show (0 : Int) ≤ (i : Int) by omega), rdL_Cell, hr, Option.bind_some, if_neg c, wr i (by omega)]
        exact hq
      · rcases hc2 with h | ⟨h1, h2, h3⟩
        · exact Or.inl h
        · have hc' : 0 ≤ r ∧ r ≤ left ∧ txCell left (l.getD i z118) := hc.resolve_left c
          refine Or.inr ⟨h1, by omega, ?_⟩
          rw [drop_getD l i z118 (by omega)]
          intro x hx
          rcases List.mem_cons.1 hx with rfl | hx
          · exact hc'.2.2
          · exact txCell_mono hc'.2.1 (h3 x hx)
theorem txCellS_ex (l : List S118) (hl : l.length ≤ 9223372036854775807) (hG : ∀ x ∈ l, G118 x) (left : Int) (h0 : 0 ≤ left ∧ left ≤ 1048576) : ∃ r, Ev (fun k => laws_szCellS.f k l left) r ∧ (r < 0 ∨ (0 ≤ r ∧ r ≤ left ∧ (l.length : Int) ≤ left ∧ ∀ x ∈ l, txCell left x)) := by
  unfold laws_szCellS.f
  rw [wi (n := left - (l.length : Int)) (by omega)]
  by_cases c : left - (l.length : Int) < 0
  · exact ⟨-1, by simp only [if_pos c]; exact Ev.now _, Or.inl (by omega)⟩
  · obtain ⟨r, hr, hc⟩ := txCellS_l0 l (by omega) hG l.length 0 (left - (l.length : Int)) (by omega) (by omega)
    refine ⟨r, by simp only [if_neg c]; exact hr, ?_⟩
    rcases hc with h | ⟨h1, h2, h3⟩
    · exact Or.inl h
    · exact Or.inr ⟨h1, by omega, by omega, fun x hx => txCell_mono (by omega) (h3 x (by simpa using hx))⟩
theorem txState_ex (a : List Int) (b : List S112) (c : List S115) (d : List S118) (ha : a.length ≤ 9223372036854775807) (hb : b.length ≤ 9223372036854775807 ∧ ∀ x ∈ b, G112 x) (hc : c.length ≤ 9223372036854775807 ∧ ∀ x ∈ c, G115 x) (hd : d.length ≤ 9223372036854775807 ∧ ∀ x ∈ d, G118 x)
    (left : Int) (h0 : 0 ≤ left ∧ left ≤ 1048576) : ∃ r, Ev (fun k => laws_szState.f k a b c d left) r ∧ (r < 0 ∨ (0 ≤ r ∧ r ≤ left ∧ (a.length : Int) ≤ left ∧ (b.length : Int) ≤ left ∧ (c.length : Int) ≤ left ∧ (d.length : Int) ≤ left ∧ (∀ x ∈ b, txTally left x) ∧ (∀ x ∈ c, txLive left x) ∧ (∀ x ∈ d, txCell left x))) := by
  unfold laws_szState.f laws_szIntS.f
  rw [wi (n := left - (a.length : Int)) (by omega)]
  by_cases c1 : left - (a.length : Int) < 0
  · exact ⟨-1, by simp only [if_pos c1, Option.bind_some, if_pos (show (-1 : Int) < 0 by omega)]; exact Ev.now _, Or.inl (by omega)⟩
  simp only [if_neg c1, Option.bind_some]
  obtain ⟨r1, e1, q1⟩ := txTallyS_ex b hb.1 hb.2 (left - (a.length : Int)) (by omega)
  by_cases c2 : r1 < 0
  · exact ⟨-1, Ev.bind e1 (by simp only [if_pos c2]; exact Ev.now _), Or.inl (by omega)⟩
  replace q1 := q1.resolve_left c2
  obtain ⟨r2, e2, q2⟩ := txLiveS_ex c hc.1 hc.2 r1 (by omega)
  by_cases c3 : r2 < 0
  · exact ⟨-1, Ev.bind e1 (by simp only [if_neg c2]; exact Ev.bind e2 (by simp only [if_pos c3]; exact Ev.now _)), Or.inl (by omega)⟩
  replace q2 := q2.resolve_left c3
  obtain ⟨r3, e3, q3⟩ := txCellS_ex d hd.1 hd.2 r2 (by omega)
  by_cases c4 : r3 < 0
  · exact ⟨-1, Ev.bind e1 (by simp only [if_neg c2]; exact Ev.bind e2 (by simp only [if_neg c3]; exact Ev.bind e3 (by simp only [if_pos c4]; exact Ev.now _))), Or.inl (by omega)⟩
  · replace q3 := q3.resolve_left c4
    obtain ⟨a1, a2, a3, a4⟩ := q1
    obtain ⟨b1, b2, b3, b4⟩ := q2
    obtain ⟨d1, d2, d3, d4⟩ := q3
    exact ⟨r3, Ev.bind e1 (by simp only [if_neg c2]; exact Ev.bind e2 (by simp only [if_neg c3]; exact Ev.bind e3 (by simp only [if_neg c4]; exact Ev.now _))), Or.inr ⟨by omega, by omega, by omega, by omega, by omega, by omega, fun x hx => txTally_mono (by omega) (a4 x hx), fun x hx => txLive_mono (by omega) (b4 x hx), fun x hx => txCell_mono (by omega) (d4 x hx)⟩⟩
theorem toIntS_l0 (l : List Int) (hl : l.length ≤ 140737488351232) : ∀ d i, i + d = l.length → Ev (fun k => laws_toIntS.l0 k l (l.take i ++ List.replicate d 0) (i : Int)) l
  | 0, i, hi => by
    refine Ev.step (fun k => rfl) ?_
    simp only [laws_toIntS.l0, if_neg (show ¬ (i : Int) < (l.length : Int) by omega)]
    rw [show l.take i ++ List.replicate 0 0 = l by rw [List.take_of_length_le (by omega)]; simp]
    exact Ev.now _
  | d + 1, i, hi => by
    refine Ev.step (fun k => rfl) ?_
    have ih := toIntS_l0 l hl d (i + 1) (by omega)
    have e : (l.take i ++ List.replicate (d + 1) 0).set (i : Int).toNat (rd l (i : Int)) = l.take (i + 1) ++ List.replicate d 0 := take_set l 0 i d (by omega)
    simp only [laws_toIntS.l0, if_pos (show (i : Int) < (l.length : Int) by omega), if_pos (show (0 : Int) ≤ (i : Int) by omega), wr i (by omega),
      if_pos (show (i : Int) < ((l.take i ++ List.replicate (d + 1) 0).length : Int) by rw [List.length_append, List.length_take, List.length_replicate]; omega), e]
    exact ih
theorem toIntS_ev (l : List Int) (hl : l.length ≤ 17592186043904) : Ev (fun k => laws_toIntS.f k l) l := by
  unfold laws_toIntS.f
  simp only [if_pos (show (0 : Int) ≤ (l.length : Int) by omega), Int.toNat_natCast, if_pos (show l.length ≤ 35184372088832 by omega)]
  exact toIntS_l0 l (by omega) l.length 0 (by omega)
theorem toDot_eq (r s : Int) : laws_toDot.f r s = some (r, s) := rfl
def toTallyC (x : S112) : S84 := ⟨x.f0, x.f1, x.f2⟩
theorem toTallyS_l0 (l : List S112) (hl : l.length ≤ 140737488351232) : ∀ d i, i + d = l.length → Ev (fun k => laws_toTallyS.l0 k l ((l.map toTallyC).take i ++ List.replicate d z84) (i : Int)) (l.map toTallyC)
  | 0, i, hi => by
    refine Ev.step (fun k => rfl) ?_
    simp only [laws_toTallyS.l0, if_neg (show ¬ (i : Int) < (l.length : Int) by omega)]
    rw [show (l.map toTallyC).take i ++ List.replicate 0 z84 = l.map toTallyC by rw [List.take_of_length_le (by rw [List.length_map]; omega)]; simp]
    exact Ev.now _
  | d + 1, i, hi => by
    refine Ev.step (fun k => rfl) ?_
    have ih := toTallyS_l0 l hl d (i + 1) (by omega)
    have e := set_mid (l.map toTallyC) z84 (toTallyC (l.getD i z112)) i d (by rw [List.length_map]; omega) (by rw [List.getElem_map, getD_get l i _ (by omega)])
    simp only [laws_toTallyS.l0, if_pos (show (i : Int) < (l.length : Int) by omega), if_pos (show (0 : Int) ≤ (i : Int) by omega), wr i (by omega), rdL_Tally, laws_toTally.f, Option.bind_some,
      if_pos (show (i : Int) < (((l.map toTallyC).take i ++ List.replicate (d + 1) z84).length : Int) by rw [List.length_append, List.length_take, List.length_replicate, List.length_map]; omega)]
    rw [show (⟨(l.getD i z112).f0, (l.getD i z112).f1, (l.getD i z112).f2⟩ : S84) = toTallyC (l.getD i z112) from rfl, e]
    exact ih
theorem toTallyS_ev (l : List S112) (hl : l.length ≤ 1048576) : Ev (fun k => laws_toTallyS.f k l) (l.map toTallyC) := by
  unfold laws_toTallyS.f
  simp only [if_pos (show (0 : Int) ≤ (l.length : Int) by omega), Int.toNat_natCast, if_pos (show l.length ≤ 8796093022208 by omega)]
  exact toTallyS_l0 l (by omega) l.length 0 (by omega)
def toLiveC (x : S115) : S86 := ⟨x.f0, x.f1, x.f2, x.f3, ⟨x.f4.f0, x.f4.f1⟩⟩
theorem toLiveS_l0 (l : List S115) (hl : l.length ≤ 140737488351232) : ∀ d i, i + d = l.length → Ev (fun k => laws_toLiveS.l0 k l ((l.map toLiveC).take i ++ List.replicate d z86) (i : Int)) (l.map toLiveC)
  | 0, i, hi => by
    refine Ev.step (fun k => rfl) ?_
    simp only [laws_toLiveS.l0, if_neg (show ¬ (i : Int) < (l.length : Int) by omega)]
    rw [show (l.map toLiveC).take i ++ List.replicate 0 z86 = l.map toLiveC by rw [List.take_of_length_le (by rw [List.length_map]; omega)]; simp]
    exact Ev.now _
  | d + 1, i, hi => by
    refine Ev.step (fun k => rfl) ?_
    have ih := toLiveS_l0 l hl d (i + 1) (by omega)
    have e := set_mid (l.map toLiveC) z86 (toLiveC (l.getD i z115)) i d (by rw [List.length_map]; omega) (by rw [List.getElem_map, getD_get l i _ (by omega)])
    simp only [laws_toLiveS.l0, if_pos (show (i : Int) < (l.length : Int) by omega), if_pos (show (0 : Int) ≤ (i : Int) by omega), wr i (by omega), rdL_Live, laws_toLive.f, toDot_eq, Option.bind_some,
      if_pos (show (i : Int) < (((l.map toLiveC).take i ++ List.replicate (d + 1) z86).length : Int) by rw [List.length_append, List.length_take, List.length_replicate, List.length_map]; omega)]
    rw [show (⟨(l.getD i z115).f0, (l.getD i z115).f1, (l.getD i z115).f2, (l.getD i z115).f3, ⟨(l.getD i z115).f4.f0, (l.getD i z115).f4.f1⟩⟩ : S86) = toLiveC (l.getD i z115) from rfl, e]
    exact ih
theorem toLiveS_ev (l : List S115) (hl : l.length ≤ 1048576) : Ev (fun k => laws_toLiveS.f k l) (l.map toLiveC) := by
  unfold laws_toLiveS.f
  simp only [if_pos (show (0 : Int) ≤ (l.length : Int) by omega), Int.toNat_natCast, if_pos (show l.length ≤ 4398046511104 by omega)]
  exact toLiveS_l0 l (by omega) l.length 0 (by omega)
def toCellC (x : S118) : S73 := ⟨x.f0, ⟨x.f1.f0, x.f1.f1⟩, x.f2, ⟨x.f3.f0, x.f3.f1⟩, x.f4, x.f5⟩
theorem toCellS_l0 (l : List S118) (hl : l.length ≤ 140737488351232) : ∀ d i, i + d = l.length → Ev (fun k => laws_toCellS.l0 k l ((l.map toCellC).take i ++ List.replicate d z73) (i : Int)) (l.map toCellC)
  | 0, i, hi => by
    refine Ev.step (fun k => rfl) ?_
    simp only [laws_toCellS.l0, if_neg (show ¬ (i : Int) < (l.length : Int) by omega)]
    rw [show (l.map toCellC).take i ++ List.replicate 0 z73 = l.map toCellC by rw [List.take_of_length_le (by rw [List.length_map]; omega)]; simp]
    exact Ev.now _
  | d + 1, i, hi => by
    refine Ev.step (fun k => rfl) ?_
    have ih := toCellS_l0 l hl d (i + 1) (by omega)
    have e := set_mid (l.map toCellC) z73 (toCellC (l.getD i z118)) i d (by rw [List.length_map]; omega) (by rw [List.getElem_map, getD_get l i _ (by omega)])
    simp only [laws_toCellS.l0, if_pos (show (i : Int) < (l.length : Int) by omega), if_pos (show (0 : Int) ≤ (i : Int) by omega), wr i (by omega), rdL_Cell, laws_toCell.f, toDot_eq, Option.bind_some,
      if_pos (show (i : Int) < (((l.map toCellC).take i ++ List.replicate (d + 1) z73).length : Int) by rw [List.length_append, List.length_take, List.length_replicate, List.length_map]; omega)]
    rw [show (⟨(l.getD i z118).f0, ⟨(l.getD i z118).f1.f0, (l.getD i z118).f1.f1⟩, (l.getD i z118).f2, ⟨(l.getD i z118).f3.f0, (l.getD i z118).f3.f1⟩, (l.getD i z118).f4, (l.getD i z118).f5⟩ : S73) = toCellC (l.getD i z118) from rfl, e]
    exact ih
theorem toCellS_ev (l : List S118) (hl : l.length ≤ 1048576) : Ev (fun k => laws_toCellS.f k l) (l.map toCellC) := by
  unfold laws_toCellS.f
  simp only [if_pos (show (0 : Int) ≤ (l.length : Int) by omega), Int.toNat_natCast, if_pos (show l.length ≤ 3909374676536 by omega)]
  exact toCellS_l0 l (by omega) l.length 0 (by omega)
theorem toState_ev (a : List Int) (b : List S112) (c : List S115) (d : List S118) (ha : a.length ≤ 1048576) (hb : b.length ≤ 1048576) (hc : c.length ≤ 1048576) (hd : d.length ≤ 1048576) :
    Ev (fun k => laws_toState.f k a b c d) (a, b.map toTallyC, c.map toLiveC, d.map toCellC) := by
  unfold laws_toState.f
  exact Ev.bind (toIntS_ev a (by omega)) (Ev.bind (toTallyS_ev b hb) (Ev.bind (toLiveS_ev c hc) (Ev.bind (toCellS_ev d hd) (Ev.now _))))
theorem eqIntS_l0 (l : List Int) (hl : l.length ≤ 140737488351232) : ∀ d i, i + d = l.length → Ev (fun k => laws_eqIntS.l0 k l l (i : Int)) true
  | 0, i, hi => by
    refine Ev.step (fun k => rfl) ?_
    simp only [laws_eqIntS.l0, if_neg (show ¬ (i : Int) < (l.length : Int) by omega)]
    exact Ev.now _
  | d + 1, i, hi => by
    refine Ev.step (fun k => rfl) ?_
    simp only [laws_eqIntS.l0, if_pos (show (i : Int) < (l.length : Int) by omega), if_pos (show (0 : Int) ≤ (i : Int) by omega), if_true, wr i (by omega)]
    exact eqIntS_l0 l hl d (i + 1) (by omega)
theorem eqIntS_ev (l : List Int) (hl : l.length ≤ 140737488351232) : Ev (fun k => laws_eqIntS.f k l l) true := by
  unfold laws_eqIntS.f
  simp only [if_true]
  exact eqIntS_l0 l hl l.length 0 (by omega)
theorem eqDot_refl (r s : Int) : laws_eqDot.f r s r s = some true := by simp [laws_eqDot.f]
theorem eqTally_refl (x : S84) : laws_eqTally.f (x.f0) (x.f1) (x.f2) (x.f0) (x.f1) (x.f2) = some true := by simp [laws_eqTally.f]
theorem eqTallyS_l0 (l : List S84) (hl : l.length ≤ 140737488351232) : ∀ d i, i + d = l.length → Ev (fun k => laws_eqTallyS.l0 k l l (i : Int)) true
  | 0, i, hi => by
    refine Ev.step (fun k => rfl) ?_
    simp only [laws_eqTallyS.l0, if_neg (show ¬ (i : Int) < (l.length : Int) by omega)]
    exact Ev.now _
  | d + 1, i, hi => by
    refine Ev.step (fun k => rfl) ?_
    simp only [laws_eqTallyS.l0, if_pos (show (i : Int) < (l.length : Int) by omega), if_pos (show (0 : Int) ≤ (i : Int) by omega), eqTally_refl, Option.bind_some, if_true, wr i (by omega)]
    exact eqTallyS_l0 l hl d (i + 1) (by omega)
theorem eqTallyS_ev (l : List S84) (hl : l.length ≤ 140737488351232) : Ev (fun k => laws_eqTallyS.f k l l) true := by
  unfold laws_eqTallyS.f
  simp only [if_true]
  exact eqTallyS_l0 l hl l.length 0 (by omega)
theorem eqLive_refl (x : S86) : laws_eqLive.f (x.f0) (x.f1) (x.f2) (x.f3) (x.f4.f0) (x.f4.f1) (x.f0) (x.f1) (x.f2) (x.f3) (x.f4.f0) (x.f4.f1) = some true := by simp [laws_eqLive.f, eqDot_refl]
theorem eqLiveS_l0 (l : List S86) (hl : l.length ≤ 140737488351232) : ∀ d i, i + d = l.length → Ev (fun k => laws_eqLiveS.l0 k l l (i : Int)) true
  | 0, i, hi => by
    refine Ev.step (fun k => rfl) ?_
    simp only [laws_eqLiveS.l0, if_neg (show ¬ (i : Int) < (l.length : Int) by omega)]
    exact Ev.now _
  | d + 1, i, hi => by
    refine Ev.step (fun k => rfl) ?_
    simp only [laws_eqLiveS.l0, if_pos (show (i : Int) < (l.length : Int) by omega), if_pos (show (0 : Int) ≤ (i : Int) by omega), eqLive_refl, Option.bind_some, if_true, wr i (by omega)]
    exact eqLiveS_l0 l hl d (i + 1) (by omega)
theorem eqLiveS_ev (l : List S86) (hl : l.length ≤ 140737488351232) : Ev (fun k => laws_eqLiveS.f k l l) true := by
  unfold laws_eqLiveS.f
  simp only [if_true]
  exact eqLiveS_l0 l hl l.length 0 (by omega)
theorem eqCell_refl (x : S73) : laws_eqCell.f (x.f0) (x.f1.f0) (x.f1.f1) (x.f2) (x.f3.f0) (x.f3.f1) (x.f4) (x.f5) (x.f0) (x.f1.f0) (x.f1.f1) (x.f2) (x.f3.f0) (x.f3.f1) (x.f4) (x.f5) = some true := by simp [laws_eqCell.f, eqDot_refl]
theorem eqCellS_l0 (l : List S73) (hl : l.length ≤ 140737488351232) : ∀ d i, i + d = l.length → Ev (fun k => laws_eqCellS.l0 k l l (i : Int)) true
  | 0, i, hi => by
    refine Ev.step (fun k => rfl) ?_
    simp only [laws_eqCellS.l0, if_neg (show ¬ (i : Int) < (l.length : Int) by omega)]
    exact Ev.now _
  | d + 1, i, hi => by
    refine Ev.step (fun k => rfl) ?_
    simp only [laws_eqCellS.l0, if_pos (show (i : Int) < (l.length : Int) by omega), if_pos (show (0 : Int) ≤ (i : Int) by omega), eqCell_refl, Option.bind_some, if_true, wr i (by omega)]
    exact eqCellS_l0 l hl d (i + 1) (by omega)
theorem eqCellS_ev (l : List S73) (hl : l.length ≤ 140737488351232) : Ev (fun k => laws_eqCellS.f k l l) true := by
  unfold laws_eqCellS.f
  simp only [if_true]
  exact eqCellS_l0 l hl l.length 0 (by omega)
theorem eqState_ev (a : List Int) (b : List S84) (c : List S86) (d : List S73) (ha : a.length ≤ 140737488351232) (hb : b.length ≤ 140737488351232) (hc : c.length ≤ 140737488351232) (hd : d.length ≤ 140737488351232) :
    Ev (fun k => laws_eqState.f k a b c d a b c d) true := by
  unfold laws_eqState.f
  refine Ev.bind (eqIntS_ev a ha) ?_
  simp only [if_true]
  refine Ev.bind (eqTallyS_ev b hb) ?_
  simp only [if_true]
  refine Ev.bind (eqLiveS_ev c hc) ?_
  simp only [if_true]
  exact Ev.bind (eqCellS_ev d hd) (Ev.now _)
def allB (p : Nat → Bool) : Nat → Nat → Bool
  | 0, _ => true
  | d + 1, i => if p i = true then allB p d (i + 1) else false
theorem allB_true {p : Nat → Bool} : ∀ {d i : Nat}, allB p d i = true ↔ ∀ j, i ≤ j → j < i + d → p j = true
  | 0, i => by simp [allB]; intro j h1 h2; omega
  | d + 1, i => by
    unfold allB
    by_cases c : p i = true
    · rw [if_pos c, allB_true]
      constructor
      · intro h j h1 h2
        by_cases e : j = i
        · subst e; exact c
        · exact h j (by omega) (by omega)
      · intro h j h1 h2; exact h j (by omega) (by omega)
    · rw [if_neg c]
      constructor
      · intro h; cases h
      · intro h; exact absurd (h i (Nat.le_refl _) (by omega)) c
theorem wm (i : Nat) (h : 0 < i) (h2 : i < 4611686018427387904) : wrap64 ((i : Int) - 1) = ((i - 1 : Nat) : Int) := by unfold wrap64; omega
theorem less_total {a b : List UInt8} (h1 : Op.bytesLess a b = false) (h2 : Op.bytesLess b a = false) : a = b := by
  have := Short.less_flip a b
  rw [h1, h2] at this
  simpa using this
theorem less_self (a : List UInt8) : Op.bytesLess a a = false := by
  have := Short.less_flip a a
  cases h : Op.bytesLess a a
  · rfl
  · rw [h] at this; simp at this
theorem less_asymm {a b : List UInt8} (h : Op.bytesLess a b = true) : Op.bytesLess b a = false := by
  have := Short.less_flip a b
  rw [h] at this
  simpa using this.symm
def beforeB (a b c d : Int) : Bool := if a < c then true else if a = c then decide (b < d) else false
theorem beforeB_true {a b c d : Int} : beforeB a b c d = true ↔ a < c ∨ a = c ∧ b < d := by
  unfold beforeB
  by_cases h : a < c
  · simp [h]
  · by_cases h2 : a = c
    · simp [h2]
    · simp [h, h2]
def ordT (a : List UInt8) (r : Int) (b : List UInt8) (s : Int) : Bool := if Op.bytesLess a b = true then true else if a = b then decide (r < s) else false
def nameB (s : ByteArray) : Nat → Nat → Bool
  | 0, _ => inB (s.size : Int) 1 8
  | d + 1, i => if inB (bt s (i : Int)) 97 122 = true then nameB s d (i + 1) else false
theorem spec_in (x lo hi : Int) : spec_l01In.f x lo hi = some (inB x lo hi) := in_ite x lo hi
theorem spec_NameOk_l0 (s : ByteArray) (hs : s.size ≤ 140737488351232) : ∀ d i, i + d = s.size → Ev (fun k => spec_NameOk.l0 k s (i : Int)) (nameB s d i)
  | 0, i, hi => by
    refine Ev.step (fun k => rfl) ?_
    simp only [spec_NameOk.l0, if_neg (show ¬ (i : Int) < (s.size : Int) by omega), spec_in, Option.bind_some]
    exact Ev.now _
  | d + 1, i, hi => by
    refine Ev.step (fun k => rfl) ?_
    have ih := spec_NameOk_l0 s hs d (i + 1) (by omega)
    have hb := bt_range s (i : Int)
    simp only [spec_NameOk.l0, if_pos (show (i : Int) < (s.size : Int) by omega), if_pos (show (0 : Int) ≤ (i : Int) by omega), wr i (by omega), nameB]
    by_cases h1 : bt s (i : Int) < 97
    · simp only [if_pos h1, inB_false.2 (show ¬ (97 ≤ bt s (i : Int) ∧ bt s (i : Int) ≤ 122) by omega)]
      exact Ev.now _
    · by_cases h2 : bt s (i : Int) > 122
      · simp only [if_neg h1, if_pos h2, inB_false.2 (show ¬ (97 ≤ bt s (i : Int) ∧ bt s (i : Int) ≤ 122) by omega)]
        exact Ev.now _
      · simp only [if_neg h1, if_neg h2, inB_true.2 (show 97 ≤ bt s (i : Int) ∧ bt s (i : Int) ≤ 122 by omega), if_true]
        exact ih
theorem spec_NameOk_ev (s : ByteArray) (hs : s.size ≤ 140737488351232) : Ev (fun k => spec_NameOk.f k s) (nameB s s.size 0) := spec_NameOk_l0 s hs s.size 0 (by omega)
def tallyP (l : List S84) (i : Nat) : Bool :=
  if nameB (l.getD i z84).f0 (l.getD i z84).f0.size 0 = true then (if inB (l.getD i z84).f1 0 2 = true then (if inB (l.getD i z84).f2 0 999999 = true then
    (if 0 < i then ordT (l.getD (i - 1) z84).f0.toList (l.getD (i - 1) z84).f1 (l.getD i z84).f0.toList (l.getD i z84).f1 else true) else false) else false) else false
def tallyAll (l : List S84) : Bool := if allB (tallyP l) l.length 0 = true then decide ((l.length : Int) ≤ 120) else false
theorem mem_getD {α : Type} {l : List α} {z : α} {P : α → Prop} (h : ∀ x ∈ l, P x) {i : Nat} (hi : i < l.length) : P (l.getD i z) := by
  rw [getD_get l i z hi]; exact h _ (List.getElem_mem _)
theorem spec_Tallies_no (l : List S84) (x : Int) (a : ByteArray) (b c : Int) : Ev (fun k => spec_l06Tallies.j1 k l x true a b c) false := by
  refine Ev.step (fun k => rfl) ?_
  simp only [spec_l06Tallies.j1, if_true]; exact Ev.now _
theorem spec_Tallies_l0 (l : List S84) (hl : l.length ≤ 140737488351232) (hs : ∀ x ∈ l, x.f0.size ≤ 140737488351232) : ∀ d i, i + d = l.length → Ev (fun k => spec_l06Tallies.l0 k l (i : Int)) (if allB (tallyP l) d i = true then decide ((l.length : Int) ≤ 120) else false)
  | 0, i, hi => by
    refine Ev.step (fun k => rfl) ?_
    simp only [spec_l06Tallies.l0, if_neg (show ¬ (i : Int) < (l.length : Int) by omega), allB, if_true]
    exact Ev.now _
  | d + 1, i, hi => by
    refine Ev.step (fun k => rfl) ?_
    have ih := spec_Tallies_l0 l hl hs d (i + 1) (by omega)
    have hn := spec_NameOk_ev (l.getD i z84).f0 (mem_getD hs (by omega))
    simp only [spec_l06Tallies.l0, if_pos (show (i : Int) < (l.length : Int) by omega), if_pos (show (0 : Int) ≤ (i : Int) by omega), rdI_Tally, spec_in, Option.bind_some, allB]
    refine Ev.bind hn ?_
    unfold tallyP
    by_cases c1 : nameB (l.getD i z84).f0 (l.getD i z84).f0.size 0 = true
    · simp only [if_pos c1]
      by_cases c2 : inB (l.getD i z84).f1 0 2 = true
      · simp only [if_pos c2]
        by_cases c3 : inB (l.getD i z84).f2 0 999999 = true
        · simp only [if_pos c3, c3, Bool.not_true]
          refine Ev.step (fun k => rfl) ?_
          simp only [spec_l06Tallies.j1, Bool.false_eq_true, if_false]
          by_cases c4 : 0 < i
          · simp only [if_pos (show (i : Int) > 0 by omega), if_pos c4, wm i c4 (by omega), if_pos (show (0 : Int) ≤ ((i - 1 : Nat) : Int) by omega), if_pos (show ((i - 1 : Nat) : Int) < (l.length : Int) by omega), rdI_Tally, wr i (by omega)]
            unfold ordT
            by_cases c5 : Op.bytesLess (l.getD i z84).f0.toList (l.getD (i - 1) z84).f0.toList = true
            · have h6 := less_asymm c5
              have h7 : ¬ (l.getD (i - 1) z84).f0.toList = (l.getD i z84).f0.toList := fun e => by rw [e, less_self] at c5; cases c5
              simp only [if_pos c5, h6, Bool.false_eq_true, if_false, if_neg h7]; exact Ev.now _
            · simp only [if_neg c5]
              by_cases c6 : (l.getD (i - 1) z84).f0.toList = (l.getD i z84).f0.toList
              · have h6 : Op.bytesLess (l.getD (i - 1) z84).f0.toList (l.getD i z84).f0.toList = false := by rw [c6]; exact less_self _
                simp only [if_pos c6, h6, Bool.false_eq_true, if_false]
                by_cases c7 : (l.getD (i - 1) z84).f1 ≥ (l.getD i z84).f1
                · simp only [if_pos c7, decide_eq_false (show ¬ (l.getD (i - 1) z84).f1 < (l.getD i z84).f1 by omega), Bool.false_eq_true, if_false]; exact Ev.now _
                · simp only [if_neg c7, decide_eq_true (show (l.getD (i - 1) z84).f1 < (l.getD i z84).f1 by omega), if_true]; exact ih
              · have h6 : Op.bytesLess (l.getD (i - 1) z84).f0.toList (l.getD i z84).f0.toList = true := by
                  cases h : Op.bytesLess (l.getD (i - 1) z84).f0.toList (l.getD i z84).f0.toList
                  · exact absurd (less_total h (Bool.eq_false_iff.2 c5)) c6
                  · rfl
                simp only [if_neg c6, h6, if_true]; exact ih
          · simp only [if_neg (show ¬ (i : Int) > 0 by omega), if_neg c4, if_true, wr i (by omega)]; exact ih
        · simp only [if_neg c3, Bool.eq_false_iff.2 c3, Bool.not_false, Bool.false_eq_true, if_false]; exact spec_Tallies_no ..
      · simp only [if_neg c2, Bool.false_eq_true, if_false]; exact spec_Tallies_no ..
    · simp only [if_neg c1, Bool.false_eq_true, if_false]; exact spec_Tallies_no ..
theorem spec_Tallies_ev (l : List S84) (hl : l.length ≤ 140737488351232) (hs : ∀ x ∈ l, x.f0.size ≤ 140737488351232) : Ev (fun k => spec_l06Tallies.f k l) (tallyAll l) := spec_Tallies_l0 l hl hs l.length 0 (by omega)
def knowB (l : List Int) : Bool := (l.all fun x => inB x 0 1000) && ((l.length : Int) == 3)
theorem all_drop (l : List Int) (i : Nat) (h : i < l.length) : ((l.drop i).all fun x => inB x 0 1000) = (inB (rd l (i : Int)) 0 1000 && (l.drop (i + 1)).all fun x => inB x 0 1000) := by
  rw [drop_rd l i h]; rfl
def dotB (r s : Int) : Bool := if inB r 0 2 = true then inB s 1 1000 else false
def knowsB (l : List Int) (r s : Int) : Bool := if knowB l = true then (if dotB r s = true then decide (s ≤ rd l r) else false) else false
def ordL (l : List S86) (i : Nat) : Bool := if 0 < i then beforeB (l.getD (i - 1) z86).f4.f0 (l.getD (i - 1) z86).f4.f1 (l.getD i z86).f4.f0 (l.getD i z86).f4.f1 else true
def ordC (l : List S73) (i : Nat) : Bool := if 0 < i then beforeB (l.getD (i - 1) z73).f1.f0 (l.getD (i - 1) z73).f1.f1 (l.getD i z73).f1.f0 (l.getD i z73).f1.f1 else true
def liveP (q : Int → Int → Bool) (l : List S86) (i : Nat) : Bool :=
  if q (l.getD i z86).f4.f0 (l.getD i z86).f4.f1 = true then (if nameB (l.getD i z86).f1 (l.getD i z86).f1.size 0 = true then (if nameB (l.getD i z86).f2 (l.getD i z86).f2.size 0 = true then (if inB (l.getD i z86).f3 0 999999 = true then
    (if (l.getD i z86).f0 = true then ordL l i else if (l.getD i z86).f3 = 0 then ordL l i else false) else false) else false) else false) else false
def liveAll (q : Int → Int → Bool) (l : List S86) : Bool := if allB (liveP q l) l.length 0 = true then decide ((l.length : Int) ≤ 120) else false
def cellP (q p : Int → Int → Bool) (l : List S73) (i : Nat) : Bool :=
  if q (l.getD i z73).f1.f0 (l.getD i z73).f1.f1 = true then (if nameB (l.getD i z73).f0 (l.getD i z73).f0.size 0 = true then (if inB (l.getD i z73).f2 1 10000 = true then (if inB (l.getD i z73).f4 0 999999 = true then
    (if p (l.getD i z73).f3.f0 (l.getD i z73).f3.f1 = true then ordC l i else false) else false) else false) else false) else false
def cellAll (q p : Int → Int → Bool) (l : List S73) : Bool := if allB (cellP q p l) l.length 0 = true then decide ((l.length : Int) ≤ 120) else false
def cellIx (a b : Int) : List S73 → Int → Int
  | [], _ => -1
  | x :: l, i => if (x.f1.f0 == a && (x.f1.f1 == b)) = true then i else cellIx a b l (i + 1)
theorem cellIx_drop (a b : Int) (l : List S73) (i : Nat) (h : i < l.length) : cellIx a b (l.drop i) (i : Int) = if ((l.getD i z73).f1.f0 == a && ((l.getD i z73).f1.f1 == b)) = true then (i : Int) else cellIx a b (l.drop (i + 1)) (((i + 1 : Nat)) : Int) := by
  rw [drop_getD l i z73 h]
  simp only [cellIx]
  rw [show ((i + 1 : Nat) : Int) = (i : Int) + 1 by omega]
theorem spec_CellAt_l0 (x : List Int) (y : List S84) (z : List S86) (l : List S73) (a b : Int) (hl : l.length ≤ 140737488351232) : ∀ d i, i + d = l.length → Ev (fun k => spec_CellAt.l0 k (i : Int) x y z l a b) (cellIx a b (l.drop i) (i : Int))
  | 0, i, hi => by
    refine Ev.step (fun k => rfl) ?_
    simp only [spec_CellAt.l0, if_neg (show ¬ (i : Int) < (l.length : Int) by omega), List.drop_eq_nil_of_le (show l.length ≤ i by omega), cellIx]
    exact Ev.now _
  | d + 1, i, hi => by
    refine Ev.step (fun k => rfl) ?_
    have ih := spec_CellAt_l0 x y z l a b hl d (i + 1) (by omega)
    simp only [spec_CellAt.l0, if_pos (show (i : Int) < (l.length : Int) by omega), if_pos (show (0 : Int) ≤ (i : Int) by omega), wr i (by omega), rdI_Cell, cellIx_drop a b l i (by omega)]
    by_cases c1 : ((l.getD i z73).f1.f0 == a && ((l.getD i z73).f1.f1 == b)) = true
    · simp only [if_pos c1]; exact Ev.now _
    · simp only [if_neg c1]; exact ih
theorem spec_CellAt_ev (x : List Int) (y : List S84) (z : List S86) (l : List S73) (a b : Int) (hl : l.length ≤ 140737488351232) : Ev (fun k => spec_CellAt.f k x y z l a b) (cellIx a b l 0) := by
  have := spec_CellAt_l0 x y z l a b hl l.length 0 (by omega)
  simpa [spec_CellAt.f] using this
def isDot (a b : Int) (x : S73) : Bool := (x.f1.f0 == a && (x.f1.f1 == b))
theorem isDot_true {a b : Int} {x : S73} : isDot a b x = true ↔ x.f1.f0 = a ∧ x.f1.f1 = b := by simp [isDot]
theorem cellIx_cases (a b : Int) (l : List S73) : ∀ d i, i + d = l.length → (cellIx a b (l.drop i) (i : Int) = -1 ∧ ∀ j, i ≤ j → j < l.length → ¬ isDot a b (l.getD j z73) = true) ∨ ∃ j : Nat, i ≤ j ∧ j < l.length ∧ cellIx a b (l.drop i) (i : Int) = (j : Int) ∧ isDot a b (l.getD j z73) = true
  | 0, i, hi => Or.inl ⟨by rw [List.drop_eq_nil_of_le (by omega)]; rfl, fun j h1 h2 => by omega⟩
  | d + 1, i, hi => by
    rw [cellIx_drop a b l i (by omega)]
    by_cases c : ((l.getD i z73).f1.f0 == a && ((l.getD i z73).f1.f1 == b)) = true
    · rw [if_pos c]; exact Or.inr ⟨i, Nat.le_refl _, by omega, rfl, c⟩
    · rw [if_neg c]
      rcases cellIx_cases a b l d (i + 1) (by omega) with ⟨h1, h2⟩ | ⟨j, h1, h2, h3, h4⟩
      · refine Or.inl ⟨h1, fun j h3 h4 => ?_⟩
        by_cases e : j = i
        · subst e; exact c
        · exact h2 j (by omega) h4
      · exact Or.inr ⟨j, by omega, h2, h3, h4⟩
theorem lastIx_cases (a b : Int) (l : List S73) : ∀ n, (lastIx a b l n = -1 ∧ ∀ j, j < n → ¬ isDot a b (l.getD j z73) = true) ∨ ∃ j : Nat, j < n ∧ lastIx a b l n = (j : Int) ∧ isDot a b (l.getD j z73) = true
  | 0 => Or.inl ⟨rfl, fun j h => by omega⟩
  | n + 1 => by
    unfold lastIx
    rw [rdI_Cell]
    by_cases c : ((l.getD n z73).f1.f0 == a && ((l.getD n z73).f1.f1 == b)) = true
    · rw [if_pos c]; exact Or.inr ⟨n, by omega, rfl, c⟩
    · rw [if_neg c]
      rcases lastIx_cases a b l n with ⟨h1, h2⟩ | ⟨j, h1, h2, h3⟩
      · refine Or.inl ⟨h1, fun j h3 => ?_⟩
        by_cases e : j = n
        · subst e; exact c
        · exact h2 j (by omega)
      · exact Or.inr ⟨j, by omega, h2, h3⟩
theorem ordC_lt {l : List S73} {n : Nat} (h : ∀ i, i < n → ordC l i = true) : ∀ j, j < n → ∀ i, i < j → beforeB (l.getD i z73).f1.f0 (l.getD i z73).f1.f1 (l.getD j z73).f1.f0 (l.getD j z73).f1.f1 = true
  | 0, _, i, hi => by omega
  | j + 1, hj, i, hi => by
    have h1 := h (j + 1) hj
    unfold ordC at h1
    rw [if_pos (by omega), show j + 1 - 1 = j from rfl] at h1
    by_cases e : i = j
    · subst e; exact h1
    · have h2 := ordC_lt h j (by omega) i (by omega)
      rw [beforeB_true] at h1 h2 ⊢
      omega
theorem first_last (a b : Int) (l : List S73) (h : ∀ i, i < l.length → ordC l i = true) : cellIx a b l 0 = lastIx a b l l.length := by
  have h1 := cellIx_cases a b l l.length 0 (by omega)
  have h2 := lastIx_cases a b l l.length
  rw [List.drop_zero] at h1
  have h1' : (cellIx a b l 0 = -1 ∧ ∀ j, 0 ≤ j → j < l.length → ¬ isDot a b (l.getD j z73) = true) ∨ ∃ j : Nat, 0 ≤ j ∧ j < l.length ∧ cellIx a b l 0 = (j : Int) ∧ isDot a b (l.getD j z73) = true := h1
  rcases h1' with ⟨e1, f1⟩ | ⟨i, _, hi, e1, f1⟩
  · rcases h2 with ⟨e2, f2⟩ | ⟨j, hj, e2, f2⟩
    · rw [e1, e2]
    · exact absurd f2 (f1 j (by omega) hj)
  · rcases h2 with ⟨e2, f2⟩ | ⟨j, hj, e2, f2⟩
    · exact absurd f1 (f2 i hi)
    · rw [e1, e2]
      rw [isDot_true] at f1 f2
      have : i = j := by
        rcases Nat.lt_trichotomy i j with h3 | h3 | h3
        · have := ordC_lt h j hj i h3; rw [beforeB_true] at this; omega
        · exact h3
        · have := ordC_lt h i hi j h3; rw [beforeB_true] at this; omega
      rw [this]
def refS (l : List S73) (x : S73) : Bool :=
  if (x.f3.f0 == 0 && (x.f3.f1 == 0)) = true then true else if cellIx x.f3.f0 x.f3.f1 l 0 < 0 then false else if (rd_T73 l (cellIx x.f3.f0 x.f3.f1 l 0)).f0.toList = x.f0.toList then (if (rd_T73 l (cellIx x.f3.f0 x.f3.f1 l 0)).f2 ≥ x.f2 then false else true) else false
theorem refS_eq (l : List S73) (h : ∀ i, i < l.length → ordC l i = true) (x : S73) : refS l x = refOkB l x := by
  unfold refS refOkB
  rw [first_last x.f3.f0 x.f3.f1 l h]
  by_cases c : (x.f3.f0 == 0 && (x.f3.f1 == 0)) = true
  · rw [if_pos c, if_pos c]
  · rw [if_neg c, if_neg c]
    by_cases c2 : 0 ≤ lastIx x.f3.f0 x.f3.f1 l l.length
    · rw [if_neg (show ¬ lastIx x.f3.f0 x.f3.f1 l l.length < 0 by omega), if_pos c2]
      by_cases c3 : (rd_T73 l (lastIx x.f3.f0 x.f3.f1 l l.length)).f0.toList = x.f0.toList
      · rw [if_pos c3, beq_iff_eq.2 c3, Bool.true_and]
        by_cases c4 : (rd_T73 l (lastIx x.f3.f0 x.f3.f1 l l.length)).f2 ≥ x.f2
        · rw [if_pos c4, decide_eq_false (by omega)]
        · rw [if_neg c4, decide_eq_true (by omega)]
      · rw [if_neg c3, beq_eq_false_iff_ne.2 c3, Bool.false_and]
    · rw [if_pos (show lastIx x.f3.f0 x.f3.f1 l l.length < 0 by omega), if_neg c2]
theorem cmp_int_eq (a b : Int) : cmp_Compare_int.f a b = some (if a < b then -1 else if a > b then 1 else 0) := by
  simp only [cmp_Compare_int.f, cmp_isNaN_int.f, Option.bind_some, bne_self_eq_false, Bool.false_eq_true, if_false]
  split
  · rfl
  · split <;> rfl
theorem cmp_string_eq (a b : ByteArray) : cmp_Compare_string.f a b = some (if Op.bytesLess a.toList b.toList = true then -1 else if Op.bytesLess b.toList a.toList = true then 1 else 0) := by
  simp only [cmp_Compare_string.f, cmp_isNaN_string.f, Option.bind_some, bne_self_eq_false, Bool.false_eq_true, if_false]
  split
  · rfl
  · split <;> rfl
theorem cmp_Or_ev (a b : Int) : Ev (fun k => cmp_Or_int.f k ([a, b] : List Int)) (if a = 0 then b else a) := by
  unfold cmp_Or_int.f
  refine Ev.step (fun k => rfl) ?_
  simp only [cmp_Or_int.l0, List.length_cons, List.length_nil, if_pos (show (0 : Int) < ((0 + 1 + 1 : Nat) : Int) by omega), if_pos (show (0 : Int) ≤ 0 by omega), show rd [a, b] 0 = a from rfl]
  by_cases c : a = 0
  · simp only [if_pos c, show wrap64 (0 + 1) = 1 by unfold wrap64; omega]
    refine Ev.step (fun k => rfl) ?_
    simp only [cmp_Or_int.l0, List.length_cons, List.length_nil, if_pos (show (1 : Int) < ((0 + 1 + 1 : Nat) : Int) by omega), if_pos (show (0 : Int) ≤ 1 by omega), show rd [a, b] 1 = b from rfl]
    by_cases d : b = 0
    · simp only [if_pos d, show wrap64 (1 + 1) = 2 by unfold wrap64; omega]
      refine Ev.step (fun k => rfl) ?_
      simp only [cmp_Or_int.l0, List.length_cons, List.length_nil, if_neg (show ¬ (2 : Int) < ((0 + 1 + 1 : Nat) : Int) by omega), d]
      exact Ev.now _
    · simp only [if_neg d]; exact Ev.now _
  · simp only [if_neg c]; exact Ev.now _
theorem impl_cmpDots_ev (a b c d : Int) : ∃ r, Ev (fun k => impl_compareDots.f k a b c d) r ∧ (r < 0 ↔ beforeB a b c d = true) := by
  refine ⟨_, by simp only [impl_compareDots.f, cmp_int_eq, Option.bind_some]; exact Ev.bind (cmp_Or_ev _ _) (Ev.now _), ?_⟩
  rw [beforeB_true]
  by_cases h : a < c
  · simp [h]
  · by_cases h2 : a > c
    · simp [h, h2]; omega
    · have h3 : a = c := by omega
      subst h3
      simp only [Int.lt_irrefl, if_false, gt_iff_lt, if_true]
      by_cases h4 : b < d
      · simp [h4]
      · by_cases h5 : d < b
        · simp [h4, h5]
        · simp [h4, h5]
theorem impl_cmpTallies_ev (s : ByteArray) (a b : Int) (t : ByteArray) (c d : Int) : ∃ r, Ev (fun k => impl_compareTallies.f k s a b t c d) r ∧ (r < 0 ↔ ordT s.toList a t.toList c = true) := by
  refine ⟨_, by simp only [impl_compareTallies.f, cmp_int_eq, cmp_string_eq, Option.bind_some]; exact Ev.bind (cmp_Or_ev _ _) (Ev.now _), ?_⟩
  unfold ordT
  cases h : Op.bytesLess s.toList t.toList
  · cases h2 : Op.bytesLess t.toList s.toList
    · have h3 := less_total h h2
      simp only [Bool.false_eq_true, if_false, if_pos h3, if_true]
      by_cases h4 : a < c
      · simp [h4]
      · by_cases h5 : a > c
        · simp [h4, h5]
        · simp [h4, h5]
    · have h3 : ¬ s.toList = t.toList := fun e => by rw [e, less_self] at h2; cases h2
      simp [h3]
  · simp
theorem impl_in (x lo hi : Int) : impl_within.f x lo hi = some (inB x lo hi) := in_ite x lo hi
theorem impl_NameOk_l0 (s : ByteArray) (hs : s.size ≤ 140737488351232) : ∀ d i, i + d = s.size → Ev (fun k => impl_NameOk.l0 k s (i : Int)) (nameB s d i)
  | 0, i, hi => by
    refine Ev.step (fun k => rfl) ?_
    simp only [impl_NameOk.l0, if_neg (show ¬ (i : Int) < (s.size : Int) by omega), impl_in, Option.bind_some]
    exact Ev.now _
  | d + 1, i, hi => by
    refine Ev.step (fun k => rfl) ?_
    have ih := impl_NameOk_l0 s hs d (i + 1) (by omega)
    have hb := bt_range s (i : Int)
    simp only [impl_NameOk.l0, if_pos (show (i : Int) < (s.size : Int) by omega), if_pos (show (0 : Int) ≤ (i : Int) by omega), wr i (by omega), nameB, wi (n := bt s (i : Int)) (by omega), impl_in, Option.bind_some]
    cases inB (bt s (i : Int)) 97 122
    · exact Ev.now _
    · exact ih
theorem impl_NameOk_ev (s : ByteArray) (hs : s.size ≤ 140737488351232) : Ev (fun k => impl_NameOk.f k s) (nameB s s.size 0) := impl_NameOk_l0 s hs s.size 0 (by omega)
theorem impl_Tallies_l0 (l : List S84) (hl : l.length ≤ 140737488351232) (hs : ∀ x ∈ l, x.f0.size ≤ 140737488351232) : ∀ d i, i + d = l.length → Ev (fun k => impl_talliesOk.l0 k l l (l.length : Int) (i : Int)) (if allB (tallyP l) d i = true then decide ((l.length : Int) ≤ 120) else false)
  | 0, i, hi => by
    refine Ev.step (fun k => rfl) ?_
    simp only [impl_talliesOk.l0, if_neg (show ¬ (i : Int) < (l.length : Int) by omega), allB, if_true]
    exact Ev.now _
  | d + 1, i, hi => by
    refine Ev.step (fun k => rfl) ?_
    have ih := impl_Tallies_l0 l hl hs d (i + 1) (by omega)
    have hn := impl_NameOk_ev (l.getD i z84).f0 (mem_getD hs (by omega))
    simp only [impl_talliesOk.l0, if_pos (show (i : Int) < (l.length : Int) by omega), if_pos (show (0 : Int) ≤ (i : Int) by omega), rdI_Tally, impl_in, Option.bind_some, allB]
    refine Ev.bind hn ?_
    unfold tallyP
    by_cases c1 : nameB (l.getD i z84).f0 (l.getD i z84).f0.size 0 = true
    · simp only [if_pos c1]
      by_cases c2 : inB (l.getD i z84).f1 0 2 = true
      · simp only [if_pos c2]
        by_cases c3 : inB (l.getD i z84).f2 0 999999 = true
        · simp only [if_pos c3]
          by_cases c4 : 0 < i
          · simp only [if_pos (show (i : Int) > 0 by omega), if_pos c4, wm i c4 (by omega), if_pos (show (0 : Int) ≤ ((i - 1 : Nat) : Int) by omega), if_pos (show ((i - 1 : Nat) : Int) < (l.length : Int) by omega), rdI_Tally, wr i (by omega)]
            obtain ⟨r, hr, hc⟩ := impl_cmpTallies_ev (l.getD (i - 1) z84).f0 (l.getD (i - 1) z84).f1 (l.getD (i - 1) z84).f2 (l.getD i z84).f0 (l.getD i z84).f1 (l.getD i z84).f2
            refine Ev.bind hr ?_
            by_cases c5 : r ≥ 0
            · simp only [if_pos c5, if_neg (show ¬ ordT (l.getD (i - 1) z84).f0.toList (l.getD (i - 1) z84).f1 (l.getD i z84).f0.toList (l.getD i z84).f1 = true from fun e => by have := hc.2 e; omega), Bool.false_eq_true, if_false]; exact Ev.now _
            · simp only [if_neg c5, hc.1 (show r < 0 by omega), if_true]; exact ih
          · simp only [if_neg (show ¬ (i : Int) > 0 by omega), if_neg c4, if_true, wr i (by omega)]; exact ih
        · simp only [if_neg c3, Bool.false_eq_true, if_false]; exact Ev.now _
      · simp only [if_neg c2, Bool.false_eq_true, if_false]; exact Ev.now _
    · simp only [if_neg c1, Bool.false_eq_true, if_false]; exact Ev.now _
theorem impl_Tallies_ev (l : List S84) (hl : l.length ≤ 140737488351232) (hs : ∀ x ∈ l, x.f0.size ≤ 140737488351232) : Ev (fun k => impl_talliesOk.f k l) (tallyAll l) := impl_Tallies_l0 l hl hs l.length 0 (by omega)
theorem impl_KnowOk_l0 (l : List Int) (hl : l.length ≤ 140737488351232) : ∀ d i, i + d = l.length → Ev (fun k => impl_KnowOk.l0 k l l (l.length : Int) (i : Int)) (((l.drop i).all fun x => inB x 0 1000) && ((l.length : Int) == 3))
  | 0, i, hi => by
    refine Ev.step (fun k => rfl) ?_
    simp only [impl_KnowOk.l0, if_neg (show ¬ (i : Int) < (l.length : Int) by omega), List.drop_eq_nil_of_le (show l.length ≤ i by omega), List.all_nil, Bool.true_and]
    exact Ev.now _
  | d + 1, i, hi => by
    refine Ev.step (fun k => rfl) ?_
    have ih := impl_KnowOk_l0 l hl d (i + 1) (by omega)
    simp only [impl_KnowOk.l0, if_pos (show (i : Int) < (l.length : Int) by omega), if_pos (show (0 : Int) ≤ (i : Int) by omega), wr i (by omega), impl_in, Option.bind_some, all_drop l i (by omega)]
    cases inB (rd l (i : Int)) 0 1000
    · exact Ev.now _
    · exact ih
theorem impl_KnowOk_ev (l : List Int) (hl : l.length ≤ 140737488351232) : Ev (fun k => impl_KnowOk.f k l) (knowB l) := impl_KnowOk_l0 l hl l.length 0 (by omega)
theorem impl_DotOk_eq (r s : Int) : impl_DotOk.f r s = some (dotB r s) := by
  unfold impl_DotOk.f dotB
  simp only [impl_in, Option.bind_some]
  split <;> rfl
theorem impl_Knows_ev (l : List Int) (r s : Int) (hl : l.length ≤ 140737488351232) : Ev (fun k => impl_Knows.f k l r s) (knowsB l r s) := by
  unfold impl_Knows.f knowsB
  refine Ev.bind (impl_KnowOk_ev l hl) ?_
  by_cases ka : knowB l = true
  · simp only [if_pos ka, impl_DotOk_eq, Option.bind_some]
    by_cases kd : dotB r s = true
    · simp only [if_pos kd]
      have h1 : 0 ≤ r ∧ r ≤ 2 := by
        unfold dotB at kd
        by_cases c : inB r 0 2 = true
        · exact inB_true.1 c
        · simp [c] at kd
      have h2 : (l.length : Int) = 3 := by
        unfold knowB at ka
        simp only [Bool.and_eq_true, beq_iff_eq] at ka
        exact ka.2
      simp only [if_pos h1.1, if_pos (show r < (l.length : Int) by omega)]
      exact Ev.now _
    · simp only [if_neg kd]; exact Ev.now _
  · simp only [if_neg ka]; exact Ev.now _
theorem impl_Lives_l0 (w : List Int) (hw : w.length ≤ 140737488351232) (l : List S86) (hl : l.length ≤ 140737488351232) (hs : ∀ x ∈ l, x.f1.size ≤ 140737488351232 ∧ x.f2.size ≤ 140737488351232) : ∀ d i, i + d = l.length → Ev (fun k => impl_livesOk.l0 k l w l (l.length : Int) (i : Int)) (if allB (liveP (knowsB w) l) d i = true then decide ((l.length : Int) ≤ 120) else false)
  | 0, i, hi => by
    refine Ev.step (fun k => rfl) ?_
    simp only [impl_livesOk.l0, if_neg (show ¬ (i : Int) < (l.length : Int) by omega), allB, if_true]
    exact Ev.now _
  | d + 1, i, hi => by
    refine Ev.step (fun k => rfl) ?_
    have ih := impl_Lives_l0 w hw l hl hs d (i + 1) (by omega)
    have hx := mem_getD (z := z86) hs (show i < l.length by omega)
    have hn := impl_NameOk_ev (l.getD i z86).f1 hx.1
    have hn2 := impl_NameOk_ev (l.getD i z86).f2 hx.2
    have hk := impl_Knows_ev w (l.getD i z86).f4.f0 (l.getD i z86).f4.f1 hw
    simp only [impl_livesOk.l0, if_pos (show (i : Int) < (l.length : Int) by omega), if_pos (show (0 : Int) ≤ (i : Int) by omega), rdI_Live, impl_in, Option.bind_some, allB]
    unfold liveP
    have no : ∀ (m : Bool) (s t : ByteArray) (v r q : Int), Ev (fun k => impl_livesOk.j1 k l w (i : Int) l (l.length : Int) (i : Int) true m s t v r q) false := fun m s t v r q => by
      refine Ev.step (fun k => rfl) ?_
      simp only [impl_livesOk.j1, if_true]; exact Ev.now _
    have go : ∀ (m : Bool) (s t : ByteArray) (v : Int), Ev (fun k => impl_livesOk.j1 k l w (i : Int) l (l.length : Int) (i : Int) false m s t v (l.getD i z86).f4.f0 (l.getD i z86).f4.f1)
        (if (if ordL l i = true then allB (liveP (knowsB w) l) d (i + 1) else false) = true then decide ((l.length : Int) ≤ 120) else false) := fun m s t v => by
      refine Ev.step (fun k => rfl) ?_
      simp only [impl_livesOk.j1, Bool.false_eq_true, if_false, wr i (by omega)]
      unfold ordL
      by_cases c4 : 0 < i
      · simp only [if_pos (show (i : Int) > 0 by omega), if_pos c4, wm i c4 (by omega), if_pos (show (0 : Int) ≤ ((i - 1 : Nat) : Int) by omega), if_pos (show ((i - 1 : Nat) : Int) < (l.length : Int) by omega), rdI_Live]
        obtain ⟨r, hr, hc⟩ := impl_cmpDots_ev (l.getD (i - 1) z86).f4.f0 (l.getD (i - 1) z86).f4.f1 (l.getD i z86).f4.f0 (l.getD i z86).f4.f1
        refine Ev.bind hr ?_
        by_cases c5 : r ≥ 0
        · simp only [if_pos c5, if_neg (show ¬ beforeB (l.getD (i - 1) z86).f4.f0 (l.getD (i - 1) z86).f4.f1 (l.getD i z86).f4.f0 (l.getD i z86).f4.f1 = true from fun e => by have := hc.2 e; omega), Bool.false_eq_true, if_false]; exact Ev.now _
        · simp only [if_neg c5, hc.1 (show r < 0 by omega), if_true]; exact ih
      · simp only [if_neg (show ¬ (i : Int) > 0 by omega), if_neg c4, if_true]; exact ih
    refine Ev.bind hk ?_
    by_cases c1 : knowsB w (l.getD i z86).f4.f0 (l.getD i z86).f4.f1 = true
    · simp only [if_pos c1]
      refine Ev.bind hn ?_
      by_cases c2 : nameB (l.getD i z86).f1 (l.getD i z86).f1.size 0 = true
      · simp only [if_pos c2]
        refine Ev.bind hn2 ?_
        by_cases c3 : nameB (l.getD i z86).f2 (l.getD i z86).f2.size 0 = true
        · simp only [if_pos c3]
          by_cases c6 : inB (l.getD i z86).f3 0 999999 = true
          · simp only [if_pos c6]
            by_cases c7 : (l.getD i z86).f0 = true
            · simp only [if_pos c7]; exact go ..
            · simp only [if_neg c7]
              by_cases c8 : (l.getD i z86).f3 = 0
              · simp only [if_pos c8, c8, bne_self_eq_false]; exact go ..
              · simp only [if_neg c8, bne_iff_ne.2 c8, Bool.false_eq_true, if_false]; exact no ..
          · simp only [if_neg c6, Bool.false_eq_true, if_false]; exact no ..
        · simp only [if_neg c3, Bool.false_eq_true, if_false]; exact no ..
      · simp only [if_neg c2, Bool.false_eq_true, if_false]; exact no ..
    · simp only [if_neg c1, Bool.false_eq_true, if_false]; exact no ..
theorem impl_Lives_ev (w : List Int) (hw : w.length ≤ 140737488351232) (l : List S86) (hl : l.length ≤ 140737488351232) (hs : ∀ x ∈ l, x.f1.size ≤ 140737488351232 ∧ x.f2.size ≤ 140737488351232) : Ev (fun k => impl_livesOk.f k l w) (liveAll (knowsB w) l) := impl_Lives_l0 w hw l hl hs l.length 0 (by omega)
def cellP2 (q : Int → Int → Bool) (l : List S73) (i : Nat) : Bool :=
  if q (l.getD i z73).f1.f0 (l.getD i z73).f1.f1 = true then (if nameB (l.getD i z73).f0 (l.getD i z73).f0.size 0 = true then (if inB (l.getD i z73).f4 0 999999 = true then (if inB (l.getD i z73).f2 1 10000 = true then
    ordC l i else false) else false) else false) else false
def cellAll2 (q : Int → Int → Bool) (l : List S73) : Bool := if allB (cellP2 q l) l.length 0 = true then decide ((l.length : Int) ≤ 120) else false
theorem impl_Cells_l0 (w : List Int) (hw : w.length ≤ 140737488351232) (l : List S73) (hl : l.length ≤ 140737488351232) (hs : ∀ x ∈ l, x.f0.size ≤ 140737488351232) : ∀ d i, i + d = l.length → Ev (fun k => impl_cellsOk.l0 k l w l (l.length : Int) (i : Int)) (if allB (cellP2 (knowsB w) l) d i = true then decide ((l.length : Int) ≤ 120) else false)
  | 0, i, hi => by
    refine Ev.step (fun k => rfl) ?_
    simp only [impl_cellsOk.l0, if_neg (show ¬ (i : Int) < (l.length : Int) by omega), allB, if_true]
    exact Ev.now _
  | d + 1, i, hi => by
    refine Ev.step (fun k => rfl) ?_
    have ih := impl_Cells_l0 w hw l hl hs d (i + 1) (by omega)
    have hn := impl_NameOk_ev (l.getD i z73).f0 (mem_getD (z := z73) hs (show i < l.length by omega))
    have hk := impl_Knows_ev w (l.getD i z73).f1.f0 (l.getD i z73).f1.f1 hw
    simp only [impl_cellsOk.l0, if_pos (show (i : Int) < (l.length : Int) by omega), if_pos (show (0 : Int) ≤ (i : Int) by omega), rdI_Cell, impl_in, Option.bind_some, allB]
    unfold cellP2
    have no : ∀ (s : ByteArray) (a b t c d2 v : Int) (g : Bool), Ev (fun k => impl_cellsOk.j1 k l w (i : Int) l (l.length : Int) (i : Int) true s a b t c d2 v g) false := fun s a b t c d2 v g => by
      refine Ev.step (fun k => rfl) ?_
      simp only [impl_cellsOk.j1, if_true]; exact Ev.now _
    have go : ∀ (s : ByteArray) (t c d2 v : Int) (g : Bool), Ev (fun k => impl_cellsOk.j1 k l w (i : Int) l (l.length : Int) (i : Int) false s (l.getD i z73).f1.f0 (l.getD i z73).f1.f1 t c d2 v g)
        (if (if ordC l i = true then allB (cellP2 (knowsB w) l) d (i + 1) else false) = true then decide ((l.length : Int) ≤ 120) else false) := fun s t c d2 v g => by
      refine Ev.step (fun k => rfl) ?_
      simp only [impl_cellsOk.j1, Bool.false_eq_true, if_false, wr i (by omega)]
      unfold ordC
      by_cases c4 : 0 < i
      · simp only [if_pos (show (i : Int) > 0 by omega), if_pos c4, wm i c4 (by omega), if_pos (show (0 : Int) ≤ ((i - 1 : Nat) : Int) by omega), if_pos (show ((i - 1 : Nat) : Int) < (l.length : Int) by omega), rdI_Cell]
        obtain ⟨r, hr, hc⟩ := impl_cmpDots_ev (l.getD (i - 1) z73).f1.f0 (l.getD (i - 1) z73).f1.f1 (l.getD i z73).f1.f0 (l.getD i z73).f1.f1
        refine Ev.bind hr ?_
        by_cases c5 : r ≥ 0
        · simp only [if_pos c5, if_neg (show ¬ beforeB (l.getD (i - 1) z73).f1.f0 (l.getD (i - 1) z73).f1.f1 (l.getD i z73).f1.f0 (l.getD i z73).f1.f1 = true from fun e => by have := hc.2 e; omega), Bool.false_eq_true, if_false]; exact Ev.now _
        · simp only [if_neg c5, hc.1 (show r < 0 by omega), if_true]; exact ih
      · simp only [if_neg (show ¬ (i : Int) > 0 by omega), if_neg c4, if_true]; exact ih
    refine Ev.bind hk ?_
    by_cases c1 : knowsB w (l.getD i z73).f1.f0 (l.getD i z73).f1.f1 = true
    · simp only [if_pos c1]
      refine Ev.bind hn ?_
      by_cases c2 : nameB (l.getD i z73).f0 (l.getD i z73).f0.size 0 = true
      · simp only [if_pos c2]
        by_cases c3 : inB (l.getD i z73).f4 0 999999 = true
        · simp only [if_pos c3]
          by_cases c6 : inB (l.getD i z73).f2 1 10000 = true
          · simp only [if_pos c6, c6, Bool.not_true]; exact go ..
          · simp only [if_neg c6, Bool.eq_false_iff.2 c6, Bool.not_false, Bool.false_eq_true, if_false]; exact no ..
        · simp only [if_neg c3, Bool.false_eq_true, if_false]; exact no ..
      · simp only [if_neg c2, Bool.false_eq_true, if_false]; exact no ..
    · simp only [if_neg c1, Bool.false_eq_true, if_false]; exact no ..
theorem impl_Cells_ev (w : List Int) (hw : w.length ≤ 140737488351232) (l : List S73) (hl : l.length ≤ 140737488351232) (hs : ∀ x ∈ l, x.f0.size ≤ 140737488351232) : Ev (fun k => impl_cellsOk.f k l w) (cellAll2 (knowsB w) l) := impl_Cells_l0 w hw l hl hs l.length 0 (by omega)
theorem spec_DotOk_eq (r s : Int) : spec_DotOk.f r s = some (dotB r s) := by
  unfold spec_DotOk.f dotB
  simp only [spec_in, Option.bind_some]
  split <;> rfl
theorem spec_before_eq (a b c d : Int) : spec_l06Before.f a b c d = some (beforeB a b c d) := by
  unfold spec_l06Before.f beforeB
  split
  · rfl
  · split <;> rfl
theorem spec_Lives_l0 (l : List S86) (hl : l.length ≤ 140737488351232) (hs : ∀ x ∈ l, x.f1.size ≤ 140737488351232 ∧ x.f2.size ≤ 140737488351232) : ∀ d i, i + d = l.length → Ev (fun k => spec_l06Lives.l0 k l (i : Int)) (if allB (liveP dotB l) d i = true then decide ((l.length : Int) ≤ 120) else false)
  | 0, i, hi => by
    refine Ev.step (fun k => rfl) ?_
    simp only [spec_l06Lives.l0, if_neg (show ¬ (i : Int) < (l.length : Int) by omega), allB, if_true]
    exact Ev.now _
  | d + 1, i, hi => by
    refine Ev.step (fun k => rfl) ?_
    have ih := spec_Lives_l0 l hl hs d (i + 1) (by omega)
    have hx := mem_getD (z := z86) hs (show i < l.length by omega)
    have hn := spec_NameOk_ev (l.getD i z86).f1 hx.1
    have hn2 := spec_NameOk_ev (l.getD i z86).f2 hx.2
    simp only [spec_l06Lives.l0, if_pos (show (i : Int) < (l.length : Int) by omega), if_pos (show (0 : Int) ≤ (i : Int) by omega), rdI_Live, spec_DotOk_eq, spec_in, Option.bind_some, spec_before_eq, allB, wr i (by omega)]
    unfold liveP
    have go : Ev (fun k => if (i : Int) > 0 then (if 0 ≤ wrap64 ((i : Int) - 1) then (if wrap64 ((i : Int) - 1) < (l.length : Int) then (if beforeB (rd_T86 l (wrap64 ((i : Int) - 1))).f4.f0 (rd_T86 l (wrap64 ((i : Int) - 1))).f4.f1 (l.getD i z86).f4.f0 (l.getD i z86).f4.f1 = true then spec_l06Lives.l0 k l ((i + 1 : Nat) : Int) else some false) else none) else none) else spec_l06Lives.l0 k l ((i + 1 : Nat) : Int))
        (if (if ordL l i = true then allB (liveP dotB l) d (i + 1) else false) = true then decide ((l.length : Int) ≤ 120) else false) := by
      unfold ordL
      by_cases c4 : 0 < i
      · simp only [if_pos (show (i : Int) > 0 by omega), if_pos c4, wm i c4 (by omega), if_pos (show (0 : Int) ≤ ((i - 1 : Nat) : Int) by omega), if_pos (show ((i - 1 : Nat) : Int) < (l.length : Int) by omega), rdI_Live]
        by_cases c5 : beforeB (l.getD (i - 1) z86).f4.f0 (l.getD (i - 1) z86).f4.f1 (l.getD i z86).f4.f0 (l.getD i z86).f4.f1 = true
        · simp only [if_pos c5]; exact ih
        · simp only [if_neg c5, Bool.false_eq_true, if_false]; exact Ev.now _
      · simp only [if_neg (show ¬ (i : Int) > 0 by omega), if_neg c4, if_true]; exact ih
    by_cases c1 : dotB (l.getD i z86).f4.f0 (l.getD i z86).f4.f1 = true
    · simp only [if_pos c1]
      refine Ev.bind hn ?_
      by_cases c2 : nameB (l.getD i z86).f1 (l.getD i z86).f1.size 0 = true
      · simp only [if_pos c2]
        refine Ev.bind hn2 ?_
        by_cases c3 : nameB (l.getD i z86).f2 (l.getD i z86).f2.size 0 = true
        · simp only [if_pos c3]
          by_cases c6 : inB (l.getD i z86).f3 0 999999 = true
          · simp only [if_pos c6]
            by_cases c7 : (l.getD i z86).f0 = true
            · simp only [if_pos c7]; exact go
            · simp only [if_neg c7]
              by_cases c8 : (l.getD i z86).f3 = 0
              · simp only [if_pos c8]; exact go
              · simp only [if_neg c8, Bool.false_eq_true, if_false]; exact Ev.now _
          · simp only [if_neg c6, Bool.false_eq_true, if_false]; exact Ev.now _
        · simp only [if_neg c3, Bool.false_eq_true, if_false]; exact Ev.now _
      · simp only [if_neg c2, Bool.false_eq_true, if_false]; exact Ev.now _
    · simp only [if_neg c1, Bool.false_eq_true, if_false]; exact Ev.now _
theorem spec_Lives_ev (l : List S86) (hl : l.length ≤ 140737488351232) (hs : ∀ x ∈ l, x.f1.size ≤ 140737488351232 ∧ x.f2.size ≤ 140737488351232) : Ev (fun k => spec_l06Lives.f k l) (liveAll dotB l) := spec_Lives_l0 l hl hs l.length 0 (by omega)
def refD (a b : Int) : Bool := if (!(a == 0) || !(b == 0)) = true then dotB a b else true
theorem spec_Cells_l0 (l : List S73) (hl : l.length ≤ 140737488351232) (hs : ∀ x ∈ l, x.f0.size ≤ 140737488351232) : ∀ d i, i + d = l.length → Ev (fun k => spec_l06Cells.l0 k l (i : Int)) (if allB (cellP dotB refD l) d i = true then decide ((l.length : Int) ≤ 120) else false)
  | 0, i, hi => by
    refine Ev.step (fun k => rfl) ?_
    simp only [spec_l06Cells.l0, if_neg (show ¬ (i : Int) < (l.length : Int) by omega), allB, if_true]
    exact Ev.now _
  | d + 1, i, hi => by
    refine Ev.step (fun k => rfl) ?_
    have ih := spec_Cells_l0 l hl hs d (i + 1) (by omega)
    have hx := mem_getD (z := z73) hs (show i < l.length by omega)
    have hn := spec_NameOk_ev (l.getD i z73).f0 hx
    simp only [spec_l06Cells.l0, if_pos (show (i : Int) < (l.length : Int) by omega), if_pos (show (0 : Int) ≤ (i : Int) by omega), rdI_Cell, spec_DotOk_eq, spec_in, Option.bind_some, spec_before_eq, allB, wr i (by omega)]
    unfold cellP
    have go : Ev (fun k => if (i : Int) > 0 then (if 0 ≤ wrap64 ((i : Int) - 1) then (if wrap64 ((i : Int) - 1) < (l.length : Int) then (if beforeB (rd_T73 l (wrap64 ((i : Int) - 1))).f1.f0 (rd_T73 l (wrap64 ((i : Int) - 1))).f1.f1 (l.getD i z73).f1.f0 (l.getD i z73).f1.f1 = true then spec_l06Cells.l0 k l ((i + 1 : Nat) : Int) else some false) else none) else none) else spec_l06Cells.l0 k l ((i + 1 : Nat) : Int))
        (if (if ordC l i = true then allB (cellP dotB refD l) d (i + 1) else false) = true then decide ((l.length : Int) ≤ 120) else false) := by
      unfold ordC
      by_cases c4 : 0 < i
      · simp only [if_pos (show (i : Int) > 0 by omega), if_pos c4, wm i c4 (by omega), if_pos (show (0 : Int) ≤ ((i - 1 : Nat) : Int) by omega), if_pos (show ((i - 1 : Nat) : Int) < (l.length : Int) by omega), rdI_Cell]
        by_cases c5 : beforeB (l.getD (i - 1) z73).f1.f0 (l.getD (i - 1) z73).f1.f1 (l.getD i z73).f1.f0 (l.getD i z73).f1.f1 = true
        · simp only [if_pos c5]; exact ih
        · simp only [if_neg c5, Bool.false_eq_true, if_false]; exact Ev.now _
      · simp only [if_neg (show ¬ (i : Int) > 0 by omega), if_neg c4, if_true]; exact ih
    by_cases c1 : dotB (l.getD i z73).f1.f0 (l.getD i z73).f1.f1 = true
    · simp only [if_pos c1]
      refine Ev.bind hn ?_
      by_cases c2 : nameB (l.getD i z73).f0 (l.getD i z73).f0.size 0 = true
      · simp only [if_pos c2]
        by_cases c3 : inB (l.getD i z73).f2 1 10000 = true
        · simp only [if_pos c3]
          by_cases c6 : inB (l.getD i z73).f4 0 999999 = true
          · simp only [if_pos c6]
            unfold refD
            by_cases c7 : (!((l.getD i z73).f3.f0 == 0) || !((l.getD i z73).f3.f1 == 0)) = true
            · simp only [if_pos c7]
              by_cases c8 : dotB (l.getD i z73).f3.f0 (l.getD i z73).f3.f1 = true
              · simp only [if_pos c8]; exact go
              · simp only [if_neg c8, Bool.false_eq_true, if_false]; exact Ev.now _
            · simp only [if_neg c7, if_true]; exact go
          · simp only [if_neg c6, Bool.false_eq_true, if_false]; exact Ev.now _
        · simp only [if_neg c3, Bool.false_eq_true, if_false]; exact Ev.now _
      · simp only [if_neg c2, Bool.false_eq_true, if_false]; exact Ev.now _
    · simp only [if_neg c1, Bool.false_eq_true, if_false]; exact Ev.now _
theorem spec_Cells_ev (l : List S73) (hl : l.length ≤ 140737488351232) (hs : ∀ x ∈ l, x.f0.size ≤ 140737488351232) : Ev (fun k => spec_l06Cells.f k l) (cellAll dotB refD l) := spec_Cells_l0 l hl hs l.length 0 (by omega)
theorem spec_KnowOk_l0 (l : List Int) (hl : l.length ≤ 140737488351232) : ∀ d i, i + d = l.length → Ev (fun k => spec_KnowOk.l0 k l (i : Int)) (((l.drop i).all fun x => inB x 0 1000) && ((l.length : Int) == 3))
  | 0, i, hi => by
    refine Ev.step (fun k => rfl) ?_
    simp only [spec_KnowOk.l0, if_neg (show ¬ (i : Int) < (l.length : Int) by omega), List.drop_eq_nil_of_le (show l.length ≤ i by omega), List.all_nil, Bool.true_and]
    exact Ev.now _
  | d + 1, i, hi => by
    refine Ev.step (fun k => rfl) ?_
    have ih := spec_KnowOk_l0 l hl d (i + 1) (by omega)
    simp only [spec_KnowOk.l0, if_pos (show (i : Int) < (l.length : Int) by omega), if_pos (show (0 : Int) ≤ (i : Int) by omega), wr i (by omega), spec_in, Option.bind_some, all_drop l i (by omega)]
    cases inB (rd l (i : Int)) 0 1000
    · exact Ev.now _
    · exact ih
theorem spec_KnowOk_ev (l : List Int) (hl : l.length ≤ 140737488351232) : Ev (fun k => spec_KnowOk.f k l) (knowB l) := spec_KnowOk_l0 l hl l.length 0 (by omega)
theorem spec_Knows_ev (l : List Int) (r s : Int) (hl : l.length ≤ 140737488351232) : Ev (fun k => spec_Knows.f k l r s) (knowsB l r s) := by
  unfold spec_Knows.f knowsB
  refine Ev.bind (spec_KnowOk_ev l hl) ?_
  by_cases ka : knowB l = true
  · simp only [if_pos ka, spec_DotOk_eq, Option.bind_some]
    by_cases kd : dotB r s = true
    · simp only [if_pos kd]
      have h1 : 0 ≤ r ∧ r ≤ 2 := by
        unfold dotB at kd
        by_cases c : inB r 0 2 = true
        · exact inB_true.1 c
        · simp [c] at kd
      have h2 : (l.length : Int) = 3 := by
        unfold knowB at ka
        simp only [Bool.and_eq_true, beq_iff_eq] at ka
        exact ka.2
      simp only [if_pos h1.1, if_pos (show r < (l.length : Int) by omega)]
      exact Ev.now _
    · simp only [if_neg kd]; exact Ev.now _
  · simp only [if_neg ka]; exact Ev.now _
def stateB (w : List Int) (t : List S84) (l : List S86) (c : List S73) : Bool :=
  if knowB w = true then (if tallyAll t = true then (if liveAll (knowsB w) l = true then (if cellAll2 (knowsB w) c = true then c.all (refOkB c) else false) else false) else false) else false
theorem impl_StateOk_ev (w : List Int) (t : List S84) (l : List S86) (c : List S73) (hw : w.length ≤ 140737488351232) (ht : t.length ≤ 140737488351232) (hl : l.length ≤ 140737488351232) (hc : c.length ≤ 140737488351232)
    (st : ∀ x ∈ t, x.f0.size ≤ 140737488351232) (sl : ∀ x ∈ l, x.f1.size ≤ 140737488351232 ∧ x.f2.size ≤ 140737488351232) (sc : ∀ x ∈ c, x.f0.size ≤ 140737488351232) (hf : c.all cellWf = true) : Ev (fun k => impl_StateOk.f k w t l c) (stateB w t l c) := by
  unfold impl_StateOk.f stateB
  refine Ev.bind (impl_KnowOk_ev w hw) ?_
  by_cases c1 : knowB w = true
  · simp only [if_pos c1]
    refine Ev.bind (impl_Tallies_ev t ht st) ?_
    by_cases c2 : tallyAll t = true
    · simp only [if_pos c2]
      refine Ev.bind (impl_Lives_ev w hw l hl sl) ?_
      by_cases c3 : liveAll (knowsB w) l = true
      · simp only [if_pos c3]
        refine Ev.bind (impl_Cells_ev w hw c hc sc) ?_
        by_cases c4 : cellAll2 (knowsB w) c = true
        · simp only [if_pos c4, impl_refsOk.f, if_pos (show c.length ≤ 4611686018427387904 ∧ c.all cellWf = true from ⟨by omega, hf⟩), Option.bind_some]; exact Ev.now _
        · simp only [if_neg c4]; exact Ev.now _
      · simp only [if_neg c3]; exact Ev.now _
    · simp only [if_neg c2]; exact Ev.now _
  · simp only [if_neg c1]; exact Ev.now _
theorem knows_dot {w : List Int} {a b : Int} (h : knowsB w a b = true) : dotB a b = true := by
  unfold knowsB at h
  by_cases c1 : knowB w = true
  · by_cases c2 : dotB a b = true
    · exact c2
    · simp [c1, c2] at h
  · simp [c1] at h
theorem liveP_iff (q : Int → Int → Bool) (l : List S86) (i : Nat) : liveP q l i = true ↔ q (l.getD i z86).f4.f0 (l.getD i z86).f4.f1 = true ∧ liveP (fun _ _ => true) l i = true := by
  unfold liveP
  by_cases h : q (l.getD i z86).f4.f0 (l.getD i z86).f4.f1 = true <;> simp [h]
theorem cellP_iff (q p : Int → Int → Bool) (l : List S73) (i : Nat) : cellP q p l i = true ↔ q (l.getD i z73).f1.f0 (l.getD i z73).f1.f1 = true ∧ p (l.getD i z73).f3.f0 (l.getD i z73).f3.f1 = true ∧ cellP (fun _ _ => true) (fun _ _ => true) l i = true := by
  unfold cellP
  generalize ordC l i = o
  generalize l.getD i z73 = x
  by_cases h : q x.f1.f0 x.f1.f1 = true <;> by_cases h2 : p x.f3.f0 x.f3.f1 = true <;> simp [h, h2]
theorem cellP2_iff (q : Int → Int → Bool) (l : List S73) (i : Nat) : cellP2 q l i = true ↔ q (l.getD i z73).f1.f0 (l.getD i z73).f1.f1 = true ∧ cellP (fun _ _ => true) (fun _ _ => true) l i = true := by
  unfold cellP2 cellP
  generalize ordC l i = o
  generalize l.getD i z73 = x
  by_cases h : q x.f1.f0 x.f1.f1 = true <;> by_cases h2 : inB x.f2 1 10000 = true <;> by_cases h3 : inB x.f4 0 999999 = true <;> simp [h, h2, h3]
theorem cellR_ord {l : List S73} {i : Nat} (h : cellP (fun _ _ => true) (fun _ _ => true) l i = true) : ordC l i = true := by
  unfold cellP at h
  simp at h
  exact h.2.2.2
theorem allB_len {p : Nat → Bool} {n : Nat} {b : Bool} : (if allB p n 0 = true then b else false) = true ↔ (∀ i, i < n → p i = true) ∧ b = true := by
  by_cases h : allB p n 0 = true
  · rw [if_pos h]
    exact ⟨fun hb => ⟨fun i hi => allB_true.1 h i (by omega) (by omega), hb⟩, fun hb => hb.2⟩
  · rw [if_neg h]
    exact ⟨fun hb => absurd hb (by decide), fun hb => absurd (allB_true.2 fun j _ hj => hb.1 j (by omega)) h⟩
theorem all_getD {l : List S73} {p : S73 → Bool} : l.all p = true ↔ ∀ i, i < l.length → p (l.getD i z73) = true := by
  rw [List.all_eq_true]
  constructor
  · intro h i hi; rw [getD_get l i _ hi]; exact h _ (List.getElem_mem _)
  · intro h x hx
    obtain ⟨i, hi, rfl⟩ := List.getElem_of_mem hx
    have := h i hi
    rw [getD_get l i _ hi] at this; exact this
def knowsL (w : List Int) (l : List S86) (i : Nat) : Bool := knowsB w (l.getD i z86).f4.f0 (l.getD i z86).f4.f1
def knowsR (w : List Int) (l : List S73) (i : Nat) : Bool := if knowsB w (l.getD i z73).f1.f0 (l.getD i z73).f1.f1 = true then refS l (l.getD i z73) else false
theorem ref_dot {w : List Int} {c : List S73} (hk : ∀ i, i < c.length → knowsB w (c.getD i z73).f1.f0 (c.getD i z73).f1.f1 = true) {x : S73} (h : refOkB c x = true) : refD x.f3.f0 x.f3.f1 = true := by
  unfold refD
  by_cases c1 : (!(x.f3.f0 == 0) || !(x.f3.f1 == 0)) = true
  · rw [if_pos c1]
    unfold refOkB at h
    rw [if_neg (by intro e; simp only [Bool.and_eq_true] at e; simp [e.1, e.2] at c1)] at h
    rcases lastIx_cases x.f3.f0 x.f3.f1 c c.length with ⟨h1, h2⟩ | ⟨j, h1, h2, h3⟩
    · rw [h1] at h; simp at h
    · have := hk j h1
      rw [isDot_true] at h3
      rw [h3.1, h3.2] at this
      exact knows_dot this
  · rw [if_neg c1]
theorem specV_eq (w : List Int) (t : List S84) (l : List S86) (c : List S73) :
    (if knowB w = true then (if tallyAll t = true then (if liveAll dotB l = true then (if cellAll dotB refD c = true then (if allB (knowsL w l) l.length 0 = true then allB (knowsR w c) c.length 0 else false) else false) else false) else false) else false) = stateB w t l c := by
  unfold stateB
  by_cases c1 : knowB w = true
  rotate_left
  · rw [if_neg c1, if_neg c1]
  by_cases c2 : tallyAll t = true
  rotate_left
  · rw [if_pos c1, if_pos c1, if_neg c2, if_neg c2]
  rw [if_pos c1, if_pos c1, if_pos c2, if_pos c2, Bool.eq_iff_iff]
  have e1 : liveAll dotB l = true ↔ (∀ i, i < l.length → liveP dotB l i = true) ∧ decide ((l.length : Int) ≤ 120) = true := allB_len
  have e2 : cellAll dotB refD c = true ↔ (∀ i, i < c.length → cellP dotB refD c i = true) ∧ decide ((c.length : Int) ≤ 120) = true := allB_len
  have e3 : liveAll (knowsB w) l = true ↔ (∀ i, i < l.length → liveP (knowsB w) l i = true) ∧ decide ((l.length : Int) ≤ 120) = true := allB_len
  have e4 : cellAll2 (knowsB w) c = true ↔ (∀ i, i < c.length → cellP2 (knowsB w) c i = true) ∧ decide ((c.length : Int) ≤ 120) = true := allB_len
  have e5 : allB (knowsL w l) l.length 0 = true ↔ ∀ i, i < l.length → knowsL w l i = true := allB_true.trans ⟨fun h i hi => h i (by omega) (by omega), fun h i _ hi => h i (by omega)⟩
  have e6 : allB (knowsR w c) c.length 0 = true ↔ ∀ i, i < c.length → knowsR w c i = true := allB_true.trans ⟨fun h i hi => h i (by omega) (by omega), fun h i _ hi => h i (by omega)⟩
  constructor
  · intro h
    by_cases d1 : liveAll dotB l = true
    rotate_left
    · rw [if_neg d1] at h; cases h
    by_cases d2 : cellAll dotB refD c = true
    rotate_left
    · rw [if_pos d1, if_neg d2] at h; cases h
    by_cases d3 : allB (knowsL w l) l.length 0 = true
    rotate_left
    · rw [if_pos d1, if_pos d2, if_neg d3] at h; cases h
    rw [if_pos d1, if_pos d2, if_pos d3, e6] at h
    rw [e1] at d1; rw [e2] at d2; rw [e5] at d3
    have f3 : liveAll (knowsB w) l = true := e3.2 ⟨fun i hi => (liveP_iff _ _ _).2 ⟨d3 i hi, ((liveP_iff _ _ _).1 (d1.1 i hi)).2⟩, d1.2⟩
    have kn : ∀ i, i < c.length → knowsB w (c.getD i z73).f1.f0 (c.getD i z73).f1.f1 = true ∧ refS c (c.getD i z73) = true := fun i hi => by
      have := h i hi
      unfold knowsR at this
      by_cases k : knowsB w (c.getD i z73).f1.f0 (c.getD i z73).f1.f1 = true
      · rw [if_pos k] at this; exact ⟨k, this⟩
      · rw [if_neg k] at this; cases this
    have f4 : cellAll2 (knowsB w) c = true := e4.2 ⟨fun i hi => (cellP2_iff _ _ _).2 ⟨(kn i hi).1, ((cellP_iff _ _ _ _).1 (d2.1 i hi)).2.2⟩, d2.2⟩
    have or : ∀ i, i < c.length → ordC c i = true := fun i hi => cellR_ord ((cellP_iff _ _ _ _).1 (d2.1 i hi)).2.2
    rw [if_pos f3, if_pos f4, all_getD]
    exact fun i hi => by rw [← refS_eq c or]; exact (kn i hi).2
  · intro h
    by_cases d1 : liveAll (knowsB w) l = true
    rotate_left
    · rw [if_neg d1] at h; cases h
    by_cases d2 : cellAll2 (knowsB w) c = true
    rotate_left
    · rw [if_pos d1, if_neg d2] at h; cases h
    rw [if_pos d1, if_pos d2, all_getD] at h
    rw [e3] at d1; rw [e4] at d2
    have kn : ∀ i, i < c.length → knowsB w (c.getD i z73).f1.f0 (c.getD i z73).f1.f1 = true := fun i hi => ((cellP2_iff _ _ _).1 (d2.1 i hi)).1
    have or : ∀ i, i < c.length → ordC c i = true := fun i hi => cellR_ord ((cellP2_iff _ _ _).1 (d2.1 i hi)).2
    have f1 : liveAll dotB l = true := e1.2 ⟨fun i hi => (liveP_iff _ _ _).2 ⟨knows_dot ((liveP_iff _ _ _).1 (d1.1 i hi)).1, ((liveP_iff _ _ _).1 (d1.1 i hi)).2⟩, d1.2⟩
    have f2 : cellAll dotB refD c = true := e2.2 ⟨fun i hi => (cellP_iff _ _ _ _).2 ⟨knows_dot (kn i hi), ref_dot kn (h i hi), ((cellP2_iff _ _ _).1 (d2.1 i hi)).2⟩, d2.2⟩
    have f3 : allB (knowsL w l) l.length 0 = true := e5.2 fun i hi => ((liveP_iff _ _ _).1 (d1.1 i hi)).1
    rw [if_pos f1, if_pos f2, if_pos f3, e6]
    exact fun i hi => by
      unfold knowsR
      rw [if_pos (kn i hi), refS_eq c or]; exact h i hi
theorem spec_StateOk_l1 (w : List Int) (t : List S84) (l : List S86) (c : List S73) (hw : w.length ≤ 140737488351232) (hc : c.length ≤ 140737488351232) : ∀ d i, i + d = c.length → Ev (fun k => spec_StateOk.l1 k (i : Int) w t l c) (allB (knowsR w c) d i)
  | 0, i, hi => by
    refine Ev.step (fun k => rfl) ?_
    simp only [spec_StateOk.l1, if_neg (show ¬ (i : Int) < (c.length : Int) by omega), allB]
    exact Ev.now _
  | d + 1, i, hi => by
    refine Ev.step (fun k => rfl) ?_
    have ih := spec_StateOk_l1 w t l c hw hc d (i + 1) (by omega)
    simp only [spec_StateOk.l1, if_pos (show (i : Int) < (c.length : Int) by omega), if_pos (show (0 : Int) ≤ (i : Int) by omega), rdI_Cell, wr i (by omega), allB]
    refine Ev.bind (spec_Knows_ev w _ _ hw) ?_
    unfold knowsR
    by_cases c1 : knowsB w (c.getD i z73).f1.f0 (c.getD i z73).f1.f1 = true
    · simp only [if_pos c1]
      unfold refS
      by_cases c2 : ((c.getD i z73).f3.f0 == 0 && ((c.getD i z73).f3.f1 == 0)) = true
      · simp only [if_pos c2, if_true]; exact ih
      · simp only [if_neg c2]
        refine Ev.bind (spec_CellAt_ev w t l c _ _ hc) ?_
        have hlt : cellIx (c.getD i z73).f3.f0 (c.getD i z73).f3.f1 c 0 < (c.length : Int) := by
          have h1 := cellIx_cases (c.getD i z73).f3.f0 (c.getD i z73).f3.f1 c c.length 0 (by omega)
          rw [List.drop_zero] at h1
          rcases h1 with ⟨e1, _⟩ | ⟨j, _, hj, e1, _⟩
          · have e1' : cellIx (c.getD i z73).f3.f0 (c.getD i z73).f3.f1 c 0 = -1 := e1
            omega
          · have e1' : cellIx (c.getD i z73).f3.f0 (c.getD i z73).f3.f1 c 0 = (j : Int) := e1
            omega
        by_cases c3 : cellIx (c.getD i z73).f3.f0 (c.getD i z73).f3.f1 c 0 < 0
        · simp only [if_pos c3, Bool.false_eq_true, if_false]; exact Ev.now _
        · simp only [if_neg c3, if_pos (show 0 ≤ cellIx (c.getD i z73).f3.f0 (c.getD i z73).f3.f1 c 0 by omega), if_pos hlt]
          by_cases c4 : (rd_T73 c (cellIx (c.getD i z73).f3.f0 (c.getD i z73).f3.f1 c 0)).f0.toList = (c.getD i z73).f0.toList
          · simp only [if_pos c4]
            by_cases c5 : (rd_T73 c (cellIx (c.getD i z73).f3.f0 (c.getD i z73).f3.f1 c 0)).f2 ≥ (c.getD i z73).f2
            · simp only [if_pos c5, Bool.false_eq_true, if_false]; exact Ev.now _
            · simp only [if_neg c5, if_true]; exact ih
          · simp only [if_neg c4, Bool.false_eq_true, if_false]; exact Ev.now _
    · simp only [if_neg c1, Bool.false_eq_true, if_false]; exact Ev.now _
theorem spec_StateOk_l0 (w : List Int) (t : List S84) (l : List S86) (c : List S73) (hw : w.length ≤ 140737488351232) (hl : l.length ≤ 140737488351232) (hc : c.length ≤ 140737488351232) : ∀ d i, i + d = l.length → Ev (fun k => spec_StateOk.l0 k (i : Int) w t l c) (if allB (knowsL w l) d i = true then allB (knowsR w c) c.length 0 else false)
  | 0, i, hi => by
    refine Ev.step (fun k => rfl) ?_
    simp only [spec_StateOk.l0, if_neg (show ¬ (i : Int) < (l.length : Int) by omega), allB, if_true]
    exact spec_StateOk_l1 w t l c hw hc c.length 0 (by omega)
  | d + 1, i, hi => by
    refine Ev.step (fun k => rfl) ?_
    have ih := spec_StateOk_l0 w t l c hw hl hc d (i + 1) (by omega)
    simp only [spec_StateOk.l0, if_pos (show (i : Int) < (l.length : Int) by omega), if_pos (show (0 : Int) ≤ (i : Int) by omega), rdI_Live, wr i (by omega), allB]
    refine Ev.bind (spec_Knows_ev w _ _ hw) ?_
    unfold knowsL
    by_cases c1 : knowsB w (l.getD i z86).f4.f0 (l.getD i z86).f4.f1 = true
    · simp only [if_pos c1]; exact ih
    · simp only [if_neg c1, Bool.false_eq_true, if_false]; exact Ev.now _
theorem spec_StateOk_ev (w : List Int) (t : List S84) (l : List S86) (c : List S73) (hw : w.length ≤ 140737488351232) (ht : t.length ≤ 140737488351232) (hl : l.length ≤ 140737488351232) (hc : c.length ≤ 140737488351232)
    (st : ∀ x ∈ t, x.f0.size ≤ 140737488351232) (sl : ∀ x ∈ l, x.f1.size ≤ 140737488351232 ∧ x.f2.size ≤ 140737488351232) (sc : ∀ x ∈ c, x.f0.size ≤ 140737488351232) : Ev (fun k => spec_StateOk.f k w t l c) (stateB w t l c) := by
  rw [← specV_eq]
  unfold spec_StateOk.f
  have no : Ev (fun k => spec_StateOk.j0 k true w t l c) false := by
    refine Ev.step (fun k => rfl) ?_
    simp only [spec_StateOk.j0, if_true]; exact Ev.now _
  refine Ev.bind (spec_KnowOk_ev w hw) ?_
  by_cases c1 : knowB w = true
  · simp only [if_pos c1]
    refine Ev.bind (spec_Tallies_ev t ht st) ?_
    by_cases c2 : tallyAll t = true
    · simp only [if_pos c2]
      refine Ev.bind (spec_Lives_ev l hl sl) ?_
      by_cases c3 : liveAll dotB l = true
      · simp only [if_pos c3]
        refine Ev.bind (spec_Cells_ev c hc sc) ?_
        by_cases c4 : cellAll dotB refD c = true
        · simp only [if_pos c4, c4, Bool.not_true]
          refine Ev.step (fun k => rfl) ?_
          simp only [spec_StateOk.j0, Bool.false_eq_true, if_false]
          exact spec_StateOk_l0 w t l c hw hl hc l.length 0 (by omega)
        · simp only [if_neg c4, Bool.eq_false_iff.2 c4, Bool.not_false]; exact no
      · simp only [if_neg c3]; exact no
    · simp only [if_neg c2]; exact no
  · simp only [if_neg c1]; exact no
theorem FnExactStateOk : laws_FnExactStateOk.Pure := by
  intro a b c d ha hb hc hd
  refine Ev.rounds ?_
  unfold laws_FnExactStateOk.f
  obtain ⟨q, hq, hl⟩ := txState_ex a b c d ha.1 hb hc hd 1048576 (by omega)
  refine Ev.bind hq ?_
  by_cases h2 : q < 0
  · simp only [if_pos h2]; exact Ev.now _
  simp only [if_neg h2]
  obtain ⟨h3, h4, la, lb, lc, ld, tb, tc, td⟩ := hl.resolve_left h2
  have t := toState_ev a b c d (by omega) (by omega) (by omega) (by omega)
  have st : ∀ x ∈ b.map toTallyC, x.f0.size ≤ 140737488351232 := fun x hx => by
    obtain ⟨y, hy, rfl⟩ := List.mem_map.1 hx
    have := tb y hy
    unfold txTally at this
    show y.f0.size ≤ _
    omega
  have sl : ∀ x ∈ c.map toLiveC, x.f1.size ≤ 140737488351232 ∧ x.f2.size ≤ 140737488351232 := fun x hx => by
    obtain ⟨y, hy, rfl⟩ := List.mem_map.1 hx
    have := tc y hy
    unfold txLive at this
    show y.f1.size ≤ _ ∧ y.f2.size ≤ _
    omega
  have sc : ∀ x ∈ d.map toCellC, x.f0.size ≤ 140737488351232 := fun x hx => by
    obtain ⟨y, hy, rfl⟩ := List.mem_map.1 hx
    have := td y hy
    unfold txCell at this
    show y.f0.size ≤ _
    omega
  have hf : (d.map toCellC).all cellWf = true := by
    rw [List.all_eq_true]
    intro x hx
    obtain ⟨y, hy, rfl⟩ := List.mem_map.1 hx
    have g := hd.2 y hy
    unfold cellWf
    show ((Lit.int .i64 y.f1.f0).wf && (Lit.int .i64 y.f1.f1).wf && ((Lit.int .i64 y.f3.f0).wf && (Lit.int .i64 y.f3.f1).wf)) = true
    rw [g.2.1.1, g.2.1.2, g.2.2.2.1.1, g.2.2.2.1.2]; rfl
  have lb' : (b.map toTallyC).length ≤ 140737488351232 := by rw [List.length_map]; omega
  have lc' : (c.map toLiveC).length ≤ 140737488351232 := by rw [List.length_map]; omega
  have ld' : (d.map toCellC).length ≤ 140737488351232 := by rw [List.length_map]; omega
  refine Ev.bind t (Ev.bind (spec_StateOk_ev a _ _ _ (by omega) lb' lc' ld' st sl sc) (Ev.bind t (Ev.bind (impl_StateOk_ev a _ _ _ (by omega) lb' lc' ld' st sl sc hf) ?_)))
  simp only [bne_self_eq_false, Bool.false_eq_true, if_false]
  refine Ev.bind t (Ev.bind (eqState_ev a _ _ _ (by omega) lb' lc' ld') ?_)
  simp only [if_true]
  exact Ev.now _
end Go.Proofs.Ytbanogkoaplcdaa.Pure
