/- The program's LivesOf tells of every state, flag and two texts what the reference's LivesOf tells, in new memory, and leaves the state as it was.
No condition beyond those of the given row. -/
import Derived.Test.YtmohbiagcbfkpaaVFnExactLivesOfQActx0
import Derived.Test.YtmohbiagcbfkpaaVFnExactLivesOfQActx1
import Derived.Test.YtmohbiagcbfkpaaVFnExactLivesOfQActx2
import Derived.Test.YtmohbiagcbfkpaaVFnExactLivesOfQActx3
import Derived.Test.YtmohbiagcbfkpaaVFnExactLivesOfQActx18
import Derived.Test.YtmohbiagcbfkpaaVFnExactLivesOfQActx19
import Derived.Test.YtmohbiagcbfkpaaVFnExactLivesOfQActx20
import Derived.Test.YtmohbiagcbfkpaaVFnExactLivesOfQActx21
import Derived.Test.YtmohbiagcbfkpaaVFnExactLivesOfQActx22
import Derived.Test.YtmohbiagcbfkpaaVFnExactLivesOfQActx23
import Derived.Test.YtmohbiagcbfkpaaVFnExactLivesOfQActx24
import Derived.Test.YtmohbiagcbfkpaaVFnExactLivesOfQActx25
import Derived.Test.YtmohbiagcbfkpaaVFnExactLivesOfSt
import Derived.Test.YtmohbiagcbfkpaaVFnExactLivesOfPlain
namespace Go.Proofs.Ytmohbiagcbfkpaa.Pure
open Go.RowKit Go.Proofs.Ytmohbiagcbfkpaa.QAct Go.Proofs.Ytmohbiagcbfkpaa.Plain Go.Proofs.YtmohbiagcbfkpaaW.PrintWords Go.Proofs.YtmohbiagcbfkpaaW.PrintLast Go.Proofs.YtmohbiagcbfkpaaW.PrintMore
set_option linter.unusedSimpArgs false
set_option linter.unusedVariables false
theorem rdL_Live (l : List S160) (i : Nat) : rd_T160 l (i : Int) = l.getD i z160 := by unfold rd_T160; rw [Int.toNat_natCast]
theorem rdI_Live (l : List S134) (i : Nat) : rd_T134 l (i : Int) = l.getD i z134 := by unfold rd_T134; rw [Int.toNat_natCast]
def livesF (m : Bool) (o q : ByteArray) : List S134 → List S134 → List S134
  | [], out => out
  | x :: l, out => if (x.f0 == m) = true then (if x.f1.toList = o.toList then (if x.f2.toList = q.toList then livesF m o q l (out ++ [x]) else livesF m o q l out) else livesF m o q l out) else livesF m o q l out
theorem livesF_len (m : Bool) (o q : ByteArray) : ∀ (l out : List S134), (livesF m o q l out).length ≤ out.length + l.length
  | [], out => by simp [livesF]
  | x :: l, out => by
    have h1 := livesF_len m o q l (out ++ [x])
    have h2 := livesF_len m o q l out
    rw [List.length_append, List.length_singleton] at h1
    rw [List.length_cons]
    unfold livesF
    split
    · split
      · split <;> omega
      · omega
    · omega
theorem spec_LivesOf_l0 (a : List Int) (b : List S127) (c : List S167) (m : Bool) (o q : ByteArray) (l : List S134) (hl : l.length ≤ 1000000000) : ∀ d i out, i + d = l.length → out.length ≤ i → Ev (fun k => spec_LivesOf.l0 k m o q out (i : Int) a b l c) (livesF m o q (l.drop i) out)
  | 0, i, out, hi, ho => by
    refine Ev.step (fun k => rfl) ?_
    simp only [spec_LivesOf.l0, if_neg (show ¬ (i : Int) < (l.length : Int) by omega), List.drop_eq_nil_of_le (show l.length ≤ i by omega), livesF]
    exact Ev.now _
  | d + 1, i, out, hi, ho => by
    refine Ev.step (fun k => rfl) ?_
    have n1 := spec_LivesOf_l0 a b c m o q l hl d (i + 1) out (by omega) (by omega)
    have n2 := spec_LivesOf_l0 a b c m o q l hl d (i + 1) (out ++ [l.getD i z134]) (by omega) (by rw [List.length_append, List.length_singleton]; omega)
    simp only [spec_LivesOf.l0, if_pos (show (i : Int) < (l.length : Int) by omega), if_pos (show (0 : Int) ≤ (i : Int) by omega), wr i (by omega), rdI_Live, drop_getD l i z134 (by omega), livesF, if_pos (show out.length < 2199023255552 by omega)]
    by_cases c1 : ((l.getD i z134).f0 == m) = true
    · by_cases c2 : (l.getD i z134).f1.toList = o.toList
      · by_cases c3 : (l.getD i z134).f2.toList = q.toList
        · simp only [if_pos c1, if_pos c2, if_pos c3]; exact n2
        · simp only [if_pos c1, if_pos c2, if_neg c3]; exact n1
      · simp only [if_pos c1, if_neg c2]; exact n1
    · simp only [if_neg c1]; exact n1
theorem spec_LivesOf_ev (a : List Int) (b : List S127) (l : List S134) (c : List S167) (m : Bool) (o q : ByteArray) (hl : l.length ≤ 1000000000) : Ev (fun k => spec_LivesOf.f k a b l c m o q) (livesF m o q l []) := by
  have := spec_LivesOf_l0 a b c m o q l hl l.length 0 [] (by omega) (by simp)
  simpa [spec_LivesOf.f] using this
theorem impl_LivesOf_l0 (m : Bool) (o q : ByteArray) (l : List S134) (hl : l.length ≤ 1000000000) : ∀ d i out, i + d = l.length → out.length ≤ i → Ev (fun k => impl_LivesOf.l0 k m o q out l (l.length : Int) (i : Int)) (livesF m o q (l.drop i) out)
  | 0, i, out, hi, ho => by
    refine Ev.step (fun k => rfl) ?_
    simp only [impl_LivesOf.l0, if_neg (show ¬ (i : Int) < (l.length : Int) by omega), List.drop_eq_nil_of_le (show l.length ≤ i by omega), livesF]
    exact Ev.now _
  | d + 1, i, out, hi, ho => by
    refine Ev.step (fun k => rfl) ?_
    have n1 := impl_LivesOf_l0 m o q l hl d (i + 1) out (by omega) (by omega)
    have n2 := impl_LivesOf_l0 m o q l hl d (i + 1) (out ++ [l.getD i z134]) (by omega) (by rw [List.length_append, List.length_singleton]; omega)
    simp only [impl_LivesOf.l0, if_pos (show (i : Int) < (l.length : Int) by omega), if_pos (show (0 : Int) ≤ (i : Int) by omega), wr i (by omega), rdI_Live, drop_getD l i z134 (by omega), livesF, if_pos (show out.length < 2199023255552 by omega)]
    by_cases c1 : ((l.getD i z134).f0 == m) = true
    · by_cases c2 : (l.getD i z134).f1.toList = o.toList
      · by_cases c3 : (l.getD i z134).f2.toList = q.toList
        · simp only [if_pos c1, if_pos c2, if_pos c3]; exact n2
        · simp only [if_pos c1, if_pos c2, if_neg c3]; exact n1
      · simp only [if_pos c1, if_neg c2]; exact n1
    · simp only [if_neg c1]; exact n1
theorem impl_LivesOf_ev (a : List Int) (b : List S127) (l : List S134) (c : List S167) (m : Bool) (o q : ByteArray) (hl : l.length ≤ 1000000000) : Ev (fun k => impl_LivesOf.f k a b l c m o q) (livesF m o q l []) := by
  have := impl_LivesOf_l0 m o q l hl l.length 0 [] (by omega) (by simp)
  simpa [impl_LivesOf.f] using this
theorem rdL_Tally (l : List S157) (i : Nat) : rd_T157 l (i : Int) = l.getD i z157 := by unfold rd_T157; rw [Int.toNat_natCast]
theorem rdI_Tally (l : List S127) (i : Nat) : rd_T127 l (i : Int) = l.getD i z127 := by unfold rd_T127; rw [Int.toNat_natCast]
theorem szTally_ex (x : S157) (h0_ : x.f0.size ≤ 9223372036854775807) (left : Int) (h0 : 0 ≤ left ∧ left ≤ 1048576) : ∃ r, laws_szTally.f (x.f0) (x.f1) (x.f2) left = some r ∧ (r < 0 ∨ 0 ≤ r ∧ r ≤ left) := by
  unfold laws_szTally.f
  rw [wi (n := left - (x.f0.size : Int)) (by omega)]
  by_cases c : left - (x.f0.size : Int) < 0
  · exact ⟨-1, by rw [if_pos c], Or.inl (by omega)⟩
  · exact ⟨left - (x.f0.size : Int), by rw [if_neg c], Or.inr (by omega)⟩
theorem szTallyS_l0 (l : List S157) (hl : l.length ≤ 140737488351232) (hG : ∀ x ∈ l, G157 x) : ∀ d i left, i + d = l.length → (0 ≤ left ∧ left ≤ 1048576) → ∃ r, Ev (fun k => laws_szTallyS.l0 k l left (i : Int)) r ∧ (r < 0 ∨ 0 ≤ r ∧ r ≤ left)
  | 0, i, left, hi, h0 => ⟨left, by
    refine Ev.step (fun k => rfl) ?_
    simp only [laws_szTallyS.l0, if_neg (show ¬ (i : Int) < (l.length : Int) by omega)]
    exact Ev.now _, Or.inr (by omega)⟩
  | d + 1, i, left, hi, h0 => by
    have hm : l.getD i z157 ∈ l := by rw [getD_get l i _ (by omega)]; exact List.getElem_mem _
    have hg := hG _ hm
    obtain ⟨r, hr, hc⟩ := szTally_ex (l.getD i z157) hg.1 left h0
    by_cases c : r < 0
    · refine ⟨-1, ?_, Or.inl (by omega)⟩
      refine Ev.step (fun k => rfl) ?_
      simp only [laws_szTallyS.l0, if_pos (show (i : Int) < (l.length : Int) by omega), if_pos (show (0 : Int) ≤ (i : Int) by omega), rdL_Tally, hr, Option.bind_some, if_pos c]
      exact Ev.now _
    · obtain ⟨q, hq, hc2⟩ := szTallyS_l0 l hl hG d (i + 1) r (by omega) (by omega)
      refine ⟨q, ?_, by omega⟩
      refine Ev.step (fun k => rfl) ?_
      simp only [laws_szTallyS.l0, if_pos (show (i : Int) < (l.length : Int) by omega), if_pos (show (0 : Int) ≤ (i : Int) by omega), rdL_Tally, hr, Option.bind_some, if_neg c, wr i (by omega)]
      exact hq
theorem szTallyS_ex (l : List S157) (hl : l.length ≤ 9223372036854775807) (hG : ∀ x ∈ l, G157 x) (left : Int) (h0 : 0 ≤ left ∧ left ≤ 1048576) : ∃ r, Ev (fun k => laws_szTallyS.f k l left) r ∧ (r < 0 ∨ (0 ≤ r ∧ r ≤ left ∧ (l.length : Int) ≤ left)) := by
  unfold laws_szTallyS.f
  rw [wi (n := left - (l.length : Int)) (by omega)]
  by_cases c : left - (l.length : Int) < 0
  · exact ⟨-1, by simp only [if_pos c]; exact Ev.now _, Or.inl (by omega)⟩
  · obtain ⟨r, hr, hc⟩ := szTallyS_l0 l (by omega) hG l.length 0 (left - (l.length : Int)) (by omega) (by omega)
    exact ⟨r, by simp only [if_neg c]; exact hr, by omega⟩
theorem szLive_ex (x : S160) (h0_ : x.f1.size ≤ 9223372036854775807) (h1_ : x.f2.size ≤ 9223372036854775807) (left : Int) (h0 : 0 ≤ left ∧ left ≤ 1048576) : ∃ r, laws_szLive.f (x.f0) (x.f1) (x.f2) (x.f3) (x.f4.f0) (x.f4.f1) left = some r ∧ (r < 0 ∨ 0 ≤ r ∧ r ≤ left) := by
  unfold laws_szLive.f
  rw [wi (n := left - (x.f1.size : Int)) (by omega)]
  by_cases c : left - (x.f1.size : Int) < 0
  · exact ⟨-1, by rw [if_pos c], Or.inl (by omega)⟩
  · rw [if_neg c, wi (n := left - (x.f1.size : Int) - (x.f2.size : Int)) (by omega)]
    by_cases c2 : left - (x.f1.size : Int) - (x.f2.size : Int) < 0
    · exact ⟨-1, by rw [if_pos c2], Or.inl (by omega)⟩
    · exact ⟨_, by rw [if_neg c2], Or.inr (by omega)⟩
theorem szLiveS_l0 (l : List S160) (hl : l.length ≤ 140737488351232) (hG : ∀ x ∈ l, G160 x) : ∀ d i left, i + d = l.length → (0 ≤ left ∧ left ≤ 1048576) → ∃ r, Ev (fun k => laws_szLiveS.l0 k l left (i : Int)) r ∧ (r < 0 ∨ 0 ≤ r ∧ r ≤ left)
  | 0, i, left, hi, h0 => ⟨left, by
    refine Ev.step (fun k => rfl) ?_
    simp only [laws_szLiveS.l0, if_neg (show ¬ (i : Int) < (l.length : Int) by omega)]
    exact Ev.now _, Or.inr (by omega)⟩
  | d + 1, i, left, hi, h0 => by
    have hm : l.getD i z160 ∈ l := by rw [getD_get l i _ (by omega)]; exact List.getElem_mem _
    have hg := hG _ hm
    obtain ⟨r, hr, hc⟩ := szLive_ex (l.getD i z160) hg.2.1 hg.2.2.1 left h0
    by_cases c : r < 0
    · refine ⟨-1, ?_, Or.inl (by omega)⟩
      refine Ev.step (fun k => rfl) ?_
      simp only [laws_szLiveS.l0, if_pos (show (i : Int) < (l.length : Int) by omega), if_pos (show (0 : Int) ≤ (i : Int) by omega), rdL_Live, hr, Option.bind_some, if_pos c]
      exact Ev.now _
    · obtain ⟨q, hq, hc2⟩ := szLiveS_l0 l hl hG d (i + 1) r (by omega) (by omega)
      refine ⟨q, ?_, by omega⟩
      refine Ev.step (fun k => rfl) ?_
      simp only [laws_szLiveS.l0, if_pos (show (i : Int) < (l.length : Int) by omega), if_pos (show (0 : Int) ≤ (i : Int) by omega), rdL_Live, hr, Option.bind_some, if_neg c, wr i (by omega)]
      exact hq
theorem szLiveS_ex (l : List S160) (hl : l.length ≤ 9223372036854775807) (hG : ∀ x ∈ l, G160 x) (left : Int) (h0 : 0 ≤ left ∧ left ≤ 1048576) : ∃ r, Ev (fun k => laws_szLiveS.f k l left) r ∧ (r < 0 ∨ (0 ≤ r ∧ r ≤ left ∧ (l.length : Int) ≤ left)) := by
  unfold laws_szLiveS.f
  rw [wi (n := left - (l.length : Int)) (by omega)]
  by_cases c : left - (l.length : Int) < 0
  · exact ⟨-1, by simp only [if_pos c]; exact Ev.now _, Or.inl (by omega)⟩
  · obtain ⟨r, hr, hc⟩ := szLiveS_l0 l (by omega) hG l.length 0 (left - (l.length : Int)) (by omega) (by omega)
    exact ⟨r, by simp only [if_neg c]; exact hr, by omega⟩
theorem rdL_Cell (l : List S163) (i : Nat) : rd_T163 l (i : Int) = l.getD i z163 := by unfold rd_T163; rw [Int.toNat_natCast]
theorem rdI_Cell (l : List S167) (i : Nat) : rd_T167 l (i : Int) = l.getD i z167 := by unfold rd_T167; rw [Int.toNat_natCast]
theorem szCell_ex (x : S163) (h0_ : x.f0.size ≤ 9223372036854775807) (left : Int) (h0 : 0 ≤ left ∧ left ≤ 1048576) : ∃ r, laws_szCell.f (x.f0) (x.f1.f0) (x.f1.f1) (x.f2) (x.f3.f0) (x.f3.f1) (x.f4) (x.f5) left = some r ∧ (r < 0 ∨ 0 ≤ r ∧ r ≤ left) := by
  unfold laws_szCell.f
  rw [wi (n := left - (x.f0.size : Int)) (by omega)]
  by_cases c : left - (x.f0.size : Int) < 0
  · exact ⟨-1, by rw [if_pos c], Or.inl (by omega)⟩
  · exact ⟨left - (x.f0.size : Int), by rw [if_neg c], Or.inr (by omega)⟩
theorem szCellS_l0 (l : List S163) (hl : l.length ≤ 140737488351232) (hG : ∀ x ∈ l, G163 x) : ∀ d i left, i + d = l.length → (0 ≤ left ∧ left ≤ 1048576) → ∃ r, Ev (fun k => laws_szCellS.l0 k l left (i : Int)) r ∧ (r < 0 ∨ 0 ≤ r ∧ r ≤ left)
  | 0, i, left, hi, h0 => ⟨left, by
    refine Ev.step (fun k => rfl) ?_
    simp only [laws_szCellS.l0, if_neg (show ¬ (i : Int) < (l.length : Int) by omega)]
    exact Ev.now _, Or.inr (by omega)⟩
  | d + 1, i, left, hi, h0 => by
    have hm : l.getD i z163 ∈ l := by rw [getD_get l i _ (by omega)]; exact List.getElem_mem _
    have hg := hG _ hm
    obtain ⟨r, hr, hc⟩ := szCell_ex (l.getD i z163) hg.1 left h0
    by_cases c : r < 0
    · refine ⟨-1, ?_, Or.inl (by omega)⟩
      refine Ev.step (fun k => rfl) ?_
      simp only [laws_szCellS.l0, if_pos (show (i : Int) < (l.length : Int) by omega), if_pos (show (0 : Int) ≤ (i : Int) by omega), rdL_Cell, hr, Option.bind_some, if_pos c]
      exact Ev.now _
    · obtain ⟨q, hq, hc2⟩ := szCellS_l0 l hl hG d (i + 1) r (by omega) (by omega)
      refine ⟨q, ?_, by omega⟩
      refine Ev.step (fun k => rfl) ?_
      simp only [laws_szCellS.l0, if_pos (show (i : Int) < (l.length : Int) by omega), if_pos (show (0 : Int) ≤ (i : Int) by omega), rdL_Cell, hr, Option.bind_some, if_neg c, wr i (by omega)]
      exact hq
theorem szCellS_ex (l : List S163) (hl : l.length ≤ 9223372036854775807) (hG : ∀ x ∈ l, G163 x) (left : Int) (h0 : 0 ≤ left ∧ left ≤ 1048576) : ∃ r, Ev (fun k => laws_szCellS.f k l left) r ∧ (r < 0 ∨ (0 ≤ r ∧ r ≤ left ∧ (l.length : Int) ≤ left)) := by
  unfold laws_szCellS.f
  rw [wi (n := left - (l.length : Int)) (by omega)]
  by_cases c : left - (l.length : Int) < 0
  · exact ⟨-1, by simp only [if_pos c]; exact Ev.now _, Or.inl (by omega)⟩
  · obtain ⟨r, hr, hc⟩ := szCellS_l0 l (by omega) hG l.length 0 (left - (l.length : Int)) (by omega) (by omega)
    exact ⟨r, by simp only [if_neg c]; exact hr, by omega⟩
theorem szState_ex (a : List Int) (b : List S157) (c : List S160) (d : List S163) (ha : a.length ≤ 9223372036854775807) (hb : b.length ≤ 9223372036854775807 ∧ ∀ x ∈ b, G157 x) (hc : c.length ≤ 9223372036854775807 ∧ ∀ x ∈ c, G160 x) (hd : d.length ≤ 9223372036854775807 ∧ ∀ x ∈ d, G163 x)
    (left : Int) (h0 : 0 ≤ left ∧ left ≤ 1048576) : ∃ r, Ev (fun k => laws_szState.f k a b c d left) r ∧ (r < 0 ∨ (0 ≤ r ∧ r ≤ left ∧ (a.length : Int) ≤ left ∧ (b.length : Int) ≤ left ∧ (c.length : Int) ≤ left ∧ (d.length : Int) ≤ left)) := by
  unfold laws_szState.f laws_szIntS.f
  rw [wi (n := left - (a.length : Int)) (by omega)]
  by_cases c1 : left - (a.length : Int) < 0
  · exact ⟨-1, by simp only [if_pos c1, Option.bind_some, if_pos (show (-1 : Int) < 0 by omega)]; exact Ev.now _, Or.inl (by omega)⟩
  simp only [if_neg c1, Option.bind_some]
  obtain ⟨r1, e1, q1⟩ := szTallyS_ex b hb.1 hb.2 (left - (a.length : Int)) (by omega)
  by_cases c2 : r1 < 0
  · exact ⟨-1, Ev.bind e1 (by simp only [if_pos c2]; exact Ev.now _), Or.inl (by omega)⟩
  obtain ⟨r2, e2, q2⟩ := szLiveS_ex c hc.1 hc.2 r1 (by omega)
  by_cases c3 : r2 < 0
  · exact ⟨-1, Ev.bind e1 (by simp only [if_neg c2]; exact Ev.bind e2 (by simp only [if_pos c3]; exact Ev.now _)), Or.inl (by omega)⟩
  obtain ⟨r3, e3, q3⟩ := szCellS_ex d hd.1 hd.2 r2 (by omega)
  by_cases c4 : r3 < 0
  · exact ⟨-1, Ev.bind e1 (by simp only [if_neg c2]; exact Ev.bind e2 (by simp only [if_neg c3]; exact Ev.bind e3 (by simp only [if_pos c4]; exact Ev.now _))), Or.inl (by omega)⟩
  · exact ⟨r3, Ev.bind e1 (by simp only [if_neg c2]; exact Ev.bind e2 (by simp only [if_neg c3]; exact Ev.bind e3 (by simp only [if_neg c4]; exact Ev.now _))), Or.inr (by omega)⟩
theorem toIntS_l0 (l : List Int) (hl : l.length ≤ 140737488351232) : ∀ d i, i + d = l.length → Ev (fun k => laws_toIntS.l0 k l (l.take i ++ List.replicate d 0) (i : Int)) l
  | 0, i, hi => by
    refine Ev.step (fun k => rfl) ?_
    simp only [laws_toIntS.l0, if_neg (show ¬ (i : Int) < (l.length : Int) by omega)]
    rw [show l.take i ++ List.replicate 0 0 = l by rw [List.take_of_length_le (by omega)]; simp]
    exact Ev.now _
  | d + 1, i, hi => by
    refine Ev.step (fun k => rfl) ?_
    have ih := toIntS_l0 l hl d (i + 1) (by omega)
    have e : (l.take i ++ List.replicate (d + 1) 0).set (i : Int).toNat (rd l (i : Int)) = l.take (i + 1) ++ List.replicate d 0 := take_set l 0 i d (by omega)
    simp only [laws_toIntS.l0, if_pos (show (i : Int) < (l.length : Int) by omega), if_pos (show (0 : Int) ≤ (i : Int) by omega), wr i (by omega),
      if_pos (show (i : Int) < ((l.take i ++ List.replicate (d + 1) 0).length : Int) by rw [List.length_append, List.length_take, List.length_replicate]; omega), e]
    exact ih
theorem toIntS_ev (l : List Int) (hl : l.length ≤ 17592186043904) : Ev (fun k => laws_toIntS.f k l) l := by
  unfold laws_toIntS.f
  simp only [if_pos (show (0 : Int) ≤ (l.length : Int) by omega), Int.toNat_natCast, if_pos (show l.length ≤ 35184372088832 by omega)]
  exact toIntS_l0 l (by omega) l.length 0 (by omega)
theorem toDot_eq (r s : Int) : laws_toDot.f r s = some (r, s) := rfl
def toTallyC (x : S157) : S127 := ⟨x.f0, x.f1, x.f2⟩
theorem toTallyS_l0 (l : List S157) (hl : l.length ≤ 140737488351232) : ∀ d i, i + d = l.length → Ev (fun k => laws_toTallyS.l0 k l ((l.map toTallyC).take i ++ List.replicate d z127) (i : Int)) (l.map toTallyC)
  | 0, i, hi => by
    refine Ev.step (fun k => rfl) ?_
    simp only [laws_toTallyS.l0, if_neg (show ¬ (i : Int) < (l.length : Int) by omega)]
    rw [show (l.map toTallyC).take i ++ List.replicate 0 z127 = l.map toTallyC by rw [List.take_of_length_le (by rw [List.length_map]; omega)]; simp]
    exact Ev.now _
  | d + 1, i, hi => by
    refine Ev.step (fun k => rfl) ?_
    have ih := toTallyS_l0 l hl d (i + 1) (by omega)
    have e := set_mid (l.map toTallyC) z127 (toTallyC (l.getD i z157)) i d (by rw [List.length_map]; omega) (by rw [List.getElem_map, getD_get l i _ (by omega)])
    simp only [laws_toTallyS.l0, if_pos (show (i : Int) < (l.length : Int) by omega), if_pos (show (0 : Int) ≤ (i : Int) by omega), wr i (by omega), rdL_Tally, laws_toTally.f, Option.bind_some,
      if_pos (show (i : Int) < (((l.map toTallyC).take i ++ List.replicate (d + 1) z127).length : Int) by rw [List.length_append, List.length_take, List.length_replicate, List.length_map]; omega)]
    rw [show (⟨(l.getD i z157).f0, (l.getD i z157).f1, (l.getD i z157).f2⟩ : S127) = toTallyC (l.getD i z157) from rfl, e]
    exact ih
theorem toTallyS_ev (l : List S157) (hl : l.length ≤ 1048576) : Ev (fun k => laws_toTallyS.f k l) (l.map toTallyC) := by
  unfold laws_toTallyS.f
  simp only [if_pos (show (0 : Int) ≤ (l.length : Int) by omega), Int.toNat_natCast, if_pos (show l.length ≤ 8796093022208 by omega)]
  exact toTallyS_l0 l (by omega) l.length 0 (by omega)
def toLiveC (x : S160) : S134 := ⟨x.f0, x.f1, x.f2, x.f3, ⟨x.f4.f0, x.f4.f1⟩⟩
theorem toLiveS_l0 (l : List S160) (hl : l.length ≤ 140737488351232) : ∀ d i, i + d = l.length → Ev (fun k => laws_toLiveS.l0 k l ((l.map toLiveC).take i ++ List.replicate d z134) (i : Int)) (l.map toLiveC)
  | 0, i, hi => by
    refine Ev.step (fun k => rfl) ?_
    simp only [laws_toLiveS.l0, if_neg (show ¬ (i : Int) < (l.length : Int) by omega)]
    rw [show (l.map toLiveC).take i ++ List.replicate 0 z134 = l.map toLiveC by rw [List.take_of_length_le (by rw [List.length_map]; omega)]; simp]
    exact Ev.now _
  | d + 1, i, hi => by
    refine Ev.step (fun k => rfl) ?_
    have ih := toLiveS_l0 l hl d (i + 1) (by omega)
    have e := set_mid (l.map toLiveC) z134 (toLiveC (l.getD i z160)) i d (by rw [List.length_map]; omega) (by rw [List.getElem_map, getD_get l i _ (by omega)])
    simp only [laws_toLiveS.l0, if_pos (show (i : Int) < (l.length : Int) by omega), if_pos (show (0 : Int) ≤ (i : Int) by omega), wr i (by omega), rdL_Live, laws_toLive.f, toDot_eq, Option.bind_some,
      if_pos (show (i : Int) < (((l.map toLiveC).take i ++ List.replicate (d + 1) z134).length : Int) by rw [List.length_append, List.length_take, List.length_replicate, List.length_map]; omega)]
    rw [show (⟨(l.getD i z160).f0, (l.getD i z160).f1, (l.getD i z160).f2, (l.getD i z160).f3, ⟨(l.getD i z160).f4.f0, (l.getD i z160).f4.f1⟩⟩ : S134) = toLiveC (l.getD i z160) from rfl, e]
    exact ih
theorem toLiveS_ev (l : List S160) (hl : l.length ≤ 1048576) : Ev (fun k => laws_toLiveS.f k l) (l.map toLiveC) := by
  unfold laws_toLiveS.f
  simp only [if_pos (show (0 : Int) ≤ (l.length : Int) by omega), Int.toNat_natCast, if_pos (show l.length ≤ 4398046511104 by omega)]
  exact toLiveS_l0 l (by omega) l.length 0 (by omega)
def toCellC (x : S163) : S167 := ⟨x.f0, ⟨x.f1.f0, x.f1.f1⟩, x.f2, ⟨x.f3.f0, x.f3.f1⟩, x.f4, x.f5⟩
theorem toCellS_l0 (l : List S163) (hl : l.length ≤ 140737488351232) : ∀ d i, i + d = l.length → Ev (fun k => laws_toCellS.l0 k l ((l.map toCellC).take i ++ List.replicate d z167) (i : Int)) (l.map toCellC)
  | 0, i, hi => by
    refine Ev.step (fun k => rfl) ?_
    simp only [laws_toCellS.l0, if_neg (show ¬ (i : Int) < (l.length : Int) by omega)]
    rw [show (l.map toCellC).take i ++ List.replicate 0 z167 = l.map toCellC by rw [List.take_of_length_le (by rw [List.length_map]; omega)]; simp]
    exact Ev.now _
  | d + 1, i, hi => by
    refine Ev.step (fun k => rfl) ?_
    have ih := toCellS_l0 l hl d (i + 1) (by omega)
    have e := set_mid (l.map toCellC) z167 (toCellC (l.getD i z163)) i d (by rw [List.length_map]; omega) (by rw [List.getElem_map, getD_get l i _ (by omega)])
    simp only [laws_toCellS.l0, if_pos (show (i : Int) < (l.length : Int) by omega), if_pos (show (0 : Int) ≤ (i : Int) by omega), wr i (by omega), rdL_Cell, laws_toCell.f, toDot_eq, Option.bind_some,
      if_pos (show (i : Int) < (((l.map toCellC).take i ++ List.replicate (d + 1) z167).length : Int) by rw [List.length_append, List.length_take, List.length_replicate, List.length_map]; omega)]
    rw [show (⟨(l.getD i z163).f0, ⟨(l.getD i z163).f1.f0, (l.getD i z163).f1.f1⟩, (l.getD i z163).f2, ⟨(l.getD i z163).f3.f0, (l.getD i z163).f3.f1⟩, (l.getD i z163).f4, (l.getD i z163).f5⟩ : S167) = toCellC (l.getD i z163) from rfl, e]
    exact ih
theorem toCellS_ev (l : List S163) (hl : l.length ≤ 1048576) : Ev (fun k => laws_toCellS.f k l) (l.map toCellC) := by
  unfold laws_toCellS.f
  simp only [if_pos (show (0 : Int) ≤ (l.length : Int) by omega), Int.toNat_natCast, if_pos (show l.length ≤ 3909374676536 by omega)]
  exact toCellS_l0 l (by omega) l.length 0 (by omega)
theorem toState_ev (a : List Int) (b : List S157) (c : List S160) (d : List S163) (ha : a.length ≤ 1048576) (hb : b.length ≤ 1048576) (hc : c.length ≤ 1048576) (hd : d.length ≤ 1048576) :
    Ev (fun k => laws_toState.f k a b c d) (a, b.map toTallyC, c.map toLiveC, d.map toCellC) := by
  unfold laws_toState.f
  exact Ev.bind (toIntS_ev a (by omega)) (Ev.bind (toTallyS_ev b hb) (Ev.bind (toLiveS_ev c hc) (Ev.bind (toCellS_ev d hd) (Ev.now _))))
theorem eqIntS_l0 (l : List Int) (hl : l.length ≤ 140737488351232) : ∀ d i, i + d = l.length → Ev (fun k => laws_eqIntS.l0 k l l (i : Int)) true
  | 0, i, hi => by
    refine Ev.step (fun k => rfl) ?_
    simp only [laws_eqIntS.l0, if_neg (show ¬ (i : Int) < (l.length : Int) by omega)]
    exact Ev.now _
  | d + 1, i, hi => by
    refine Ev.step (fun k => rfl) ?_
    simp only [laws_eqIntS.l0, if_pos (show (i : Int) < (l.length : Int) by omega), if_pos (show (0 : Int) ≤ (i : Int) by omega), if_true, wr i (by omega)]
    exact eqIntS_l0 l hl d (i + 1) (by omega)
theorem eqIntS_ev (l : List Int) (hl : l.length ≤ 140737488351232) : Ev (fun k => laws_eqIntS.f k l l) true := by
  unfold laws_eqIntS.f
  simp only [if_true]
  exact eqIntS_l0 l hl l.length 0 (by omega)
theorem eqDot_refl (r s : Int) : laws_eqDot.f r s r s = some true := by simp [laws_eqDot.f]
theorem eqTally_refl (x : S127) : laws_eqTally.f (x.f0) (x.f1) (x.f2) (x.f0) (x.f1) (x.f2) = some true := by simp [laws_eqTally.f]
theorem eqTallyS_l0 (l : List S127) (hl : l.length ≤ 140737488351232) : ∀ d i, i + d = l.length → Ev (fun k => laws_eqTallyS.l0 k l l (i : Int)) true
  | 0, i, hi => by
    refine Ev.step (fun k => rfl) ?_
    simp only [laws_eqTallyS.l0, if_neg (show ¬ (i : Int) < (l.length : Int) by omega)]
    exact Ev.now _
  | d + 1, i, hi => by
    refine Ev.step (fun k => rfl) ?_
    simp only [laws_eqTallyS.l0, if_pos (show (i : Int) < (l.length : Int) by omega), if_pos (show (0 : Int) ≤ (i : Int) by omega), eqTally_refl, Option.bind_some, if_true, wr i (by omega)]
    exact eqTallyS_l0 l hl d (i + 1) (by omega)
theorem eqTallyS_ev (l : List S127) (hl : l.length ≤ 140737488351232) : Ev (fun k => laws_eqTallyS.f k l l) true := by
  unfold laws_eqTallyS.f
  simp only [if_true]
  exact eqTallyS_l0 l hl l.length 0 (by omega)
theorem eqLive_refl (x : S134) : laws_eqLive.f (x.f0) (x.f1) (x.f2) (x.f3) (x.f4.f0) (x.f4.f1) (x.f0) (x.f1) (x.f2) (x.f3) (x.f4.f0) (x.f4.f1) = some true := by simp [laws_eqLive.f, eqDot_refl]
theorem eqLiveS_l0 (l : List S134) (hl : l.length ≤ 140737488351232) : ∀ d i, i + d = l.length → Ev (fun k => laws_eqLiveS.l0 k l l (i : Int)) true
  | 0, i, hi => by
    refine Ev.step (fun k => rfl) ?_
    simp only [laws_eqLiveS.l0, if_neg (show ¬ (i : Int) < (l.length : Int) by omega)]
    exact Ev.now _
  | d + 1, i, hi => by
    refine Ev.step (fun k => rfl) ?_
    simp only [laws_eqLiveS.l0, if_pos (show (i : Int) < (l.length : Int) by omega), if_pos (show (0 : Int) ≤ (i : Int) by omega), eqLive_refl, Option.bind_some, if_true, wr i (by omega)]
    exact eqLiveS_l0 l hl d (i + 1) (by omega)
theorem eqLiveS_ev (l : List S134) (hl : l.length ≤ 140737488351232) : Ev (fun k => laws_eqLiveS.f k l l) true := by
  unfold laws_eqLiveS.f
  simp only [if_true]
  exact eqLiveS_l0 l hl l.length 0 (by omega)
theorem eqCell_refl (x : S167) : laws_eqCell.f (x.f0) (x.f1.f0) (x.f1.f1) (x.f2) (x.f3.f0) (x.f3.f1) (x.f4) (x.f5) (x.f0) (x.f1.f0) (x.f1.f1) (x.f2) (x.f3.f0) (x.f3.f1) (x.f4) (x.f5) = some true := by simp [laws_eqCell.f, eqDot_refl]
theorem eqCellS_l0 (l : List S167) (hl : l.length ≤ 140737488351232) : ∀ d i, i + d = l.length → Ev (fun k => laws_eqCellS.l0 k l l (i : Int)) true
  | 0, i, hi => by
    refine Ev.step (fun k => rfl) ?_
    simp only [laws_eqCellS.l0, if_neg (show ¬ (i : Int) < (l.length : Int) by omega)]
    exact Ev.now _
  | d + 1, i, hi => by
    refine Ev.step (fun k => rfl) ?_
    simp only [laws_eqCellS.l0, if_pos (show (i : Int) < (l.length : Int) by omega), if_pos (show (0 : Int) ≤ (i : Int) by omega), eqCell_refl, Option.bind_some, if_true, wr i (by omega)]
    exact eqCellS_l0 l hl d (i + 1) (by omega)
theorem eqCellS_ev (l : List S167) (hl : l.length ≤ 140737488351232) : Ev (fun k => laws_eqCellS.f k l l) true := by
  unfold laws_eqCellS.f
  simp only [if_true]
  exact eqCellS_l0 l hl l.length 0 (by omega)
theorem eqState_ev (a : List Int) (b : List S127) (c : List S134) (d : List S167) (ha : a.length ≤ 140737488351232) (hb : b.length ≤ 140737488351232) (hc : c.length ≤ 140737488351232) (hd : d.length ≤ 140737488351232) :
    Ev (fun k => laws_eqState.f k a b c d a b c d) true := by
  unfold laws_eqState.f
  refine Ev.bind (eqIntS_ev a ha) ?_
  simp only [if_true]
  refine Ev.bind (eqTallyS_ev b hb) ?_
  simp only [if_true]
  refine Ev.bind (eqLiveS_ev c hc) ?_
  simp only [if_true]
  exact Ev.bind (eqCellS_ev d hd) (Ev.now _)
def iota : Nat → Int → List Int
  | 0, _ => []
  | n + 1, m => m :: iota n (m + 1)
theorem iota_len : ∀ n m, (iota n m).length = n
  | 0, _ => rfl
  | n + 1, m => by simp [iota, iota_len n]
theorem iota_snoc : ∀ n m, iota (n + 1) m = iota n m ++ [m + n]
  | 0, m => by simp [iota]
  | n + 1, m => by
    rw [show iota (n + 1 + 1) m = m :: iota (n + 1) (m + 1) from rfl, iota_snoc n (m + 1)]
    simp [iota]; omega
theorem markIntS_l0 (l : List Int) (hl : l.length ≤ 140737488351232) (m : Int) (hm : 0 ≤ m ∧ m ≤ 1000000000000) : ∀ d i, i + d = l.length → Ev (fun k => laws_markIntS.l0 k (iota i m ++ l.drop i) (m + i) (i : Int)) (m + (l.length : Int), iota l.length m)
  | 0, i, hi => by
    refine Ev.step (fun k => rfl) ?_
    have e : (iota i m ++ l.drop i) = iota l.length m := by rw [List.drop_eq_nil_of_le (by omega), show i = l.length by omega, List.append_nil]
    simp only [laws_markIntS.l0, e, iota_len, if_neg (show ¬ (i : Int) < (l.length : Int) by omega)]
    rw [show (i : Int) = (l.length : Int) by omega]
    exact Ev.now _
  | d + 1, i, hi => by
    refine Ev.step (fun k => rfl) ?_
    have ih := markIntS_l0 l hl m hm d (i + 1) (by omega)
    have hlen : (iota i m ++ l.drop i).length = l.length := by rw [List.length_append, iota_len, List.length_drop]; omega
    have e : (iota i m ++ l.drop i).set (i : Int).toNat (m + i) = iota (i + 1) m ++ l.drop (i + 1) := by
      rw [Int.toNat_natCast, List.set_append_right _ _ (by rw [iota_len]; omega), iota_len, Nat.sub_self, drop_rd l i (by omega), List.set_cons_zero, iota_snoc, List.append_assoc]
      rfl
    simp only [laws_markIntS.l0, hlen, if_pos (show (i : Int) < (l.length : Int) by omega), if_pos (show (0 : Int) ≤ (i : Int) by omega), wr i (by omega), e, wi (n := m + i + 1) (by omega)]
    rw [show m + (i : Int) + 1 = m + ((i + 1 : Nat) : Int) by omega]
    exact ih
theorem markIntS_ev (l : List Int) (hl : l.length ≤ 140737488351232) (m : Int) (hm : 0 ≤ m ∧ m ≤ 1000000000000) : Ev (fun k => laws_markIntS.f k l m) (m + (l.length : Int), iota l.length m) := by
  have := markIntS_l0 l hl m hm l.length 0 (by omega)
  simpa [laws_markIntS.f, iota] using this
def p10 (d : Nat) : Int := 10 ^ d
theorem p10_succ (d : Nat) : p10 (d + 1) = 10 * p10 d := by unfold p10; rw [Int.pow_succ]; omega
theorem p10_zero : p10 0 = 1 := rfl
def mtF : Nat → Int → ByteArray → ByteArray
  | 0, _, out => (⟨#[109]⟩ : ByteArray) ++ out
  | d + 1, x, out => if x > 0 then mtF d (x / 10) (strOfNums [(48 + x % 10) % 256] ++ out) else (⟨#[109]⟩ : ByteArray) ++ out
def mt (x : Int) : ByteArray := if x ≤ 0 then (⟨#[109, 48]⟩ : ByteArray) else mtF 20 x (⟨#[]⟩ : ByteArray)
theorem markText_l0 : ∀ (d : Nat) (x : Int) (out : ByteArray), 0 ≤ x → x ≤ 9223372036854775807 → x < p10 d → out.size + d ≤ 1000 → Ev (fun k => laws_markText.l0 k x out) (mtF d x out)
  | 0, x, out, h0, hm, hx, ho => by
    rw [p10_zero] at hx
    refine Ev.step (fun k => rfl) ?_
    simp only [laws_markText.l0, if_neg (show ¬ x > 0 by omega), if_pos (show 1 + out.size ≤ 9223372036854775807 by omega), mtF]
    exact Ev.now _
  | d + 1, x, out, h0, hm, hx, ho => by
    rw [p10_succ] at hx
    refine Ev.step (fun k => rfl) ?_
    by_cases c : x > 0
    · have e1 : wrap64 (Int.tdiv x 10) = x / 10 := by rw [Int.tdiv_eq_ediv_of_nonneg h0]; exact wi (by omega)
      have e2 : (wrap64 (48 + Int.tmod x 10)) % 256 = (48 + x % 10) % 256 := by rw [Int.tmod_eq_emod_of_nonneg h0, wi (by omega)]
      have hz : (strOfNums [(48 + x % 10) % 256]).size = 1 := by rw [strOfNums_size]; rfl
      simp only [laws_markText.l0, if_pos c, Option.bind_some, e1, e2, hz, if_pos (show 1 + out.size ≤ 9223372036854775807 by omega), mtF]
      exact markText_l0 d (x / 10) _ (by omega) (by omega) (by omega) (by rw [ByteArray.size_append, hz]; omega)
    · simp only [laws_markText.l0, if_neg c, if_pos (show 1 + out.size ≤ 9223372036854775807 by omega), mtF]
      exact Ev.now _
theorem mt_ev (x : Int) (h0 : 0 ≤ x) (hm : x ≤ 9000000000000000) : Ev (fun k => laws_markText.f k x) (mt x) := by
  unfold laws_markText.f mt
  by_cases c : x ≤ 0
  · simp only [if_pos c]; exact Ev.now _
  · simp only [if_neg c]
    exact markText_l0 20 x _ h0 (by omega) (by unfold p10; omega) (by decide)
def vTally (m : Int) : S127 := ⟨mt m, m + 1, m + 2⟩
theorem markTallyS_l0 (l : List S127) (hl : l.length ≤ 1000000000) (m : Int) (hm : 0 ≤ m ∧ m ≤ 1000000000000) : ∀ d i, i + d = l.length → Ev (fun k => laws_markTallyS.l0 k (marks vTally 3 i m ++ l.drop i) (m + i * 3) (i : Int)) (m + (l.length : Int) * 3, marks vTally 3 l.length m)
  | 0, i, hi => by
    refine Ev.step (fun k => rfl) ?_
    simp only [laws_markTallyS.l0, marks_mid vTally 3 l m i (by omega), if_neg (show ¬ (i : Int) < (l.length : Int) by omega)]
    rw [List.drop_eq_nil_of_le (show l.length ≤ i by omega), List.append_nil, show i = l.length by omega]
    exact Ev.now _
  | d + 1, i, hi => by
    refine Ev.step (fun k => rfl) ?_
    have ih := markTallyS_l0 l hl m hm d (i + 1) (by omega)
    have hlen := marks_mid vTally 3 l m i (by omega)
    have rdset : ∀ x : S127, rd_T127 ((marks vTally 3 i m ++ l.drop i).set (i : Int).toNat x) (i : Int) = x := fun x => by
      rw [rdI_Tally, Int.toNat_natCast, getD_set _ _ _ _ (Nat.lt_of_lt_of_eq (show i < l.length by omega) hlen.symm)]
    have hset := marks_set vTally 3 l m i (by omega) _ rfl
    rw [show vTally (m + (i : Int) * 3) = (⟨mt (m + (i : Int) * 3), m + (i : Int) * 3 + 1, m + (i : Int) * 3 + 2⟩ : S127) from rfl] at hset
    simp only [laws_markTallyS.l0, hlen, if_pos (show (i : Int) < (l.length : Int) by omega), if_pos (show (0 : Int) ≤ (i : Int) by omega), wr i (by omega), Option.bind_some, List.set_set, rdset, wi (n := m + (i : Int) * 3 + 1) (by omega), wi (n := m + (i : Int) * 3 + 1 + 1) (by omega), wi (n := m + (i : Int) * 3 + 1 + 1 + 1) (by omega)]
    refine Ev.bind (mt_ev (m + (i : Int) * 3) (by omega) (by omega)) ?_
    (try simp only [Option.bind_some, List.set_set, rdset])
    simp only [show m + (i : Int) * 3 + 1 + 1 = m + (i : Int) * 3 + 2 by omega, show m + (i : Int) * 3 + 2 + 1 = m + (i : Int) * 3 + 3 by omega]
    rw [hset, show m + (i : Int) * 3 + 3 = m + ((i + 1 : Nat) : Int) * 3 by omega]
    exact ih
theorem markTallyS_ev (l : List S127) (hl : l.length ≤ 1000000000) (m : Int) (hm : 0 ≤ m ∧ m ≤ 1000000000000) : Ev (fun k => laws_markTallyS.f k l m) (m + (l.length : Int) * 3, marks vTally 3 l.length m) := by
  have := markTallyS_l0 l hl m hm l.length 0 (by omega)
  simpa [laws_markTallyS.f, marks] using this
def vLive (m : Int) : S134 := ⟨(Int.tmod m 3 == 0), mt (m + 1), mt (m + 2), m + 3, ⟨m + 4, m + 5⟩⟩
theorem markLiveS_l0 (l : List S134) (hl : l.length ≤ 1000000000) (m : Int) (hm : 0 ≤ m ∧ m ≤ 1000000000000) : ∀ d i, i + d = l.length → Ev (fun k => laws_markLiveS.l0 k (marks vLive 6 i m ++ l.drop i) (m + i * 6) (i : Int)) (m + (l.length : Int) * 6, marks vLive 6 l.length m)
  | 0, i, hi => by
    refine Ev.step (fun k => rfl) ?_
    simp only [laws_markLiveS.l0, marks_mid vLive 6 l m i (by omega), if_neg (show ¬ (i : Int) < (l.length : Int) by omega)]
    rw [List.drop_eq_nil_of_le (show l.length ≤ i by omega), List.append_nil, show i = l.length by omega]
    exact Ev.now _
  | d + 1, i, hi => by
    refine Ev.step (fun k => rfl) ?_
    have ih := markLiveS_l0 l hl m hm d (i + 1) (by omega)
    have hlen := marks_mid vLive 6 l m i (by omega)
    have rdset : ∀ x : S134, rd_T134 ((marks vLive 6 i m ++ l.drop i).set (i : Int).toNat x) (i : Int) = x := fun x => by
      rw [rdI_Live, Int.toNat_natCast, getD_set _ _ _ _ (Nat.lt_of_lt_of_eq (show i < l.length by omega) hlen.symm)]
    have hset := marks_set vLive 6 l m i (by omega) _ rfl
    rw [show vLive (m + (i : Int) * 6) = (⟨(Int.tmod (m + (i : Int) * 6) 3 == 0), mt (m + (i : Int) * 6 + 1), mt (m + (i : Int) * 6 + 2), m + (i : Int) * 6 + 3, ⟨m + (i : Int) * 6 + 4, m + (i : Int) * 6 + 5⟩⟩ : S134) from rfl] at hset
    simp only [laws_markLiveS.l0, hlen, if_pos (show (i : Int) < (l.length : Int) by omega), if_pos (show (0 : Int) ≤ (i : Int) by omega), wr i (by omega), Option.bind_some, List.set_set, rdset, wi (n := m + (i : Int) * 6 + 1) (by omega), wi (n := m + (i : Int) * 6 + 1 + 1) (by omega), wi (n := m + (i : Int) * 6 + 1 + 1 + 1) (by omega), wi (n := m + (i : Int) * 6 + 1 + 1 + 1 + 1) (by omega), wi (n := m + (i : Int) * 6 + 1 + 1 + 1 + 1 + 1) (by omega), wi (n := m + (i : Int) * 6 + 1 + 1 + 1 + 1 + 1 + 1) (by omega)]
    refine Ev.bind (mt_ev (m + (i : Int) * 6 + 1) (by omega) (by omega)) ?_
    (try simp only [Option.bind_some, List.set_set, rdset])
    refine Ev.bind (mt_ev (m + (i : Int) * 6 + 1 + 1) (by omega) (by omega)) ?_
    (try simp only [Option.bind_some, List.set_set, rdset])
    simp only [show m + (i : Int) * 6 + 1 + 1 = m + (i : Int) * 6 + 2 by omega, show m + (i : Int) * 6 + 2 + 1 = m + (i : Int) * 6 + 3 by omega, show m + (i : Int) * 6 + 3 + 1 = m + (i : Int) * 6 + 4 by omega, show m + (i : Int) * 6 + 4 + 1 = m + (i : Int) * 6 + 5 by omega, show m + (i : Int) * 6 + 5 + 1 = m + (i : Int) * 6 + 6 by omega]
    rw [hset, show m + (i : Int) * 6 + 6 = m + ((i + 1 : Nat) : Int) * 6 by omega]
    exact ih
theorem markLiveS_ev (l : List S134) (hl : l.length ≤ 1000000000) (m : Int) (hm : 0 ≤ m ∧ m ≤ 1000000000000) : Ev (fun k => laws_markLiveS.f k l m) (m + (l.length : Int) * 6, marks vLive 6 l.length m) := by
  have := markLiveS_l0 l hl m hm l.length 0 (by omega)
  simpa [laws_markLiveS.f, marks] using this
def vCell (m : Int) : S167 := ⟨mt m, ⟨m + 1, m + 2⟩, m + 3, ⟨m + 4, m + 5⟩, m + 6, (Int.tmod (m + 7) 3 == 0)⟩
theorem markCellS_l0 (l : List S167) (hl : l.length ≤ 1000000000) (m : Int) (hm : 0 ≤ m ∧ m ≤ 1000000000000) : ∀ d i, i + d = l.length → Ev (fun k => laws_markCellS.l0 k (marks vCell 8 i m ++ l.drop i) (m + i * 8) (i : Int)) (m + (l.length : Int) * 8, marks vCell 8 l.length m)
  | 0, i, hi => by
    refine Ev.step (fun k => rfl) ?_
    simp only [laws_markCellS.l0, marks_mid vCell 8 l m i (by omega), if_neg (show ¬ (i : Int) < (l.length : Int) by omega)]
    rw [List.drop_eq_nil_of_le (show l.length ≤ i by omega), List.append_nil, show i = l.length by omega]
    exact Ev.now _
  | d + 1, i, hi => by
    refine Ev.step (fun k => rfl) ?_
    have ih := markCellS_l0 l hl m hm d (i + 1) (by omega)
    have hlen := marks_mid vCell 8 l m i (by omega)
    have rdset : ∀ x : S167, rd_T167 ((marks vCell 8 i m ++ l.drop i).set (i : Int).toNat x) (i : Int) = x := fun x => by
      rw [rdI_Cell, Int.toNat_natCast, getD_set _ _ _ _ (Nat.lt_of_lt_of_eq (show i < l.length by omega) hlen.symm)]
    have hset := marks_set vCell 8 l m i (by omega) _ rfl
    rw [show vCell (m + (i : Int) * 8) = (⟨mt (m + (i : Int) * 8), ⟨m + (i : Int) * 8 + 1, m + (i : Int) * 8 + 2⟩, m + (i : Int) * 8 + 3, ⟨m + (i : Int) * 8 + 4, m + (i : Int) * 8 + 5⟩, m + (i : Int) * 8 + 6, (Int.tmod (m + (i : Int) * 8 + 7) 3 == 0)⟩ : S167) from rfl] at hset
    simp only [laws_markCellS.l0, hlen, if_pos (show (i : Int) < (l.length : Int) by omega), if_pos (show (0 : Int) ≤ (i : Int) by omega), wr i (by omega), Option.bind_some, List.set_set, rdset, wi (n := m + (i : Int) * 8 + 1) (by omega), wi (n := m + (i : Int) * 8 + 1 + 1) (by omega), wi (n := m + (i : Int) * 8 + 1 + 1 + 1) (by omega), wi (n := m + (i : Int) * 8 + 1 + 1 + 1 + 1) (by omega), wi (n := m + (i : Int) * 8 + 1 + 1 + 1 + 1 + 1) (by omega), wi (n := m + (i : Int) * 8 + 1 + 1 + 1 + 1 + 1 + 1) (by omega), wi (n := m + (i : Int) * 8 + 1 + 1 + 1 + 1 + 1 + 1 + 1) (by omega), wi (n := m + (i : Int) * 8 + 1 + 1 + 1 + 1 + 1 + 1 + 1 + 1) (by omega)]
    refine Ev.bind (mt_ev (m + (i : Int) * 8) (by omega) (by omega)) ?_
    (try simp only [Option.bind_some, List.set_set, rdset])
    simp only [show m + (i : Int) * 8 + 1 + 1 = m + (i : Int) * 8 + 2 by omega, show m + (i : Int) * 8 + 2 + 1 = m + (i : Int) * 8 + 3 by omega, show m + (i : Int) * 8 + 3 + 1 = m + (i : Int) * 8 + 4 by omega, show m + (i : Int) * 8 + 4 + 1 = m + (i : Int) * 8 + 5 by omega, show m + (i : Int) * 8 + 5 + 1 = m + (i : Int) * 8 + 6 by omega, show m + (i : Int) * 8 + 6 + 1 = m + (i : Int) * 8 + 7 by omega, show m + (i : Int) * 8 + 7 + 1 = m + (i : Int) * 8 + 8 by omega]
    rw [hset, show m + (i : Int) * 8 + 8 = m + ((i + 1 : Nat) : Int) * 8 by omega]
    exact ih
theorem markCellS_ev (l : List S167) (hl : l.length ≤ 1000000000) (m : Int) (hm : 0 ≤ m ∧ m ≤ 1000000000000) : Ev (fun k => laws_markCellS.f k l m) (m + (l.length : Int) * 8, marks vCell 8 l.length m) := by
  have := markCellS_l0 l hl m hm l.length 0 (by omega)
  simpa [laws_markCellS.f, marks] using this
theorem markState_ev (a : List Int) (b : List S127) (c : List S134) (d : List S167) (ha : a.length ≤ 10000000) (hb : b.length ≤ 10000000) (hc : c.length ≤ 10000000) (hd : d.length ≤ 10000000) (m : Int) (hm : 0 ≤ m ∧ m ≤ 1000000000) :
    Ev (fun k => laws_markState.f k a b c d m) (m + (a.length : Int) + (b.length : Int) * 3 + (c.length : Int) * 6 + (d.length : Int) * 8, iota a.length m, marks vTally 3 b.length (m + (a.length : Int)), marks vLive 6 c.length (m + (a.length : Int) + (b.length : Int) * 3), marks vCell 8 d.length (m + (a.length : Int) + (b.length : Int) * 3 + (c.length : Int) * 6)) := by
  unfold laws_markState.f
  exact Ev.bind (markIntS_ev a (by omega) m (by omega)) (Ev.bind (markTallyS_ev b (by omega) _ (by simp only; omega)) (Ev.bind (markLiveS_ev c (by omega) _ (by simp only; omega)) (Ev.bind (markCellS_ev d (by omega) _ (by simp only; omega)) (Ev.now _))))
theorem heldLiveS_l0 (n : Nat) (hn : n ≤ 1000000000) (m : Int) (hm : 0 ≤ m ∧ m ≤ 1000000000000) : ∀ d i, i + d = n → Ev (fun k => laws_heldLiveS.l0 k (marks vLive 6 n m) (m + i * 6) (i : Int)) (m + (n : Int) * 6)
  | 0, i, hi => by
    refine Ev.step (fun k => rfl) ?_
    simp only [laws_heldLiveS.l0, marks_len, if_neg (show ¬ (i : Int) < (n : Int) by omega)]
    rw [show i = n by omega]
    exact Ev.now _
  | d + 1, i, hi => by
    refine Ev.step (fun k => rfl) ?_
    have ih := heldLiveS_l0 n hn m hm d (i + 1) (by omega)
    have g : rd_T134 (marks vLive 6 n m) (i : Int) = (⟨(Int.tmod (m + (i : Int) * 6) 3 == 0), mt (m + (i : Int) * 6 + 1), mt (m + (i : Int) * 6 + 2), m + (i : Int) * 6 + 3, ⟨m + (i : Int) * 6 + 4, m + (i : Int) * 6 + 5⟩⟩ : S134) := by
      rw [rdI_Live, marks_get vLive 6 _ n m i (by omega)]; rfl
    simp only [laws_heldLiveS.l0, marks_len, if_pos (show (i : Int) < (n : Int) by omega), if_pos (show (0 : Int) ≤ (i : Int) by omega), wr i (by omega), g, wi (n := m + (i : Int) * 6 + 1) (by omega), wi (n := m + (i : Int) * 6 + 1 + 1) (by omega), wi (n := m + (i : Int) * 6 + 1 + 1 + 1) (by omega), wi (n := m + (i : Int) * 6 + 1 + 1 + 1 + 1) (by omega), wi (n := m + (i : Int) * 6 + 1 + 1 + 1 + 1 + 1) (by omega), wi (n := m + (i : Int) * 6 + 1 + 1 + 1 + 1 + 1 + 1) (by omega)]
    simp only [bne_self_eq_false, Bool.false_eq_true, if_false]
    refine Ev.bind (mt_ev (m + (i : Int) * 6 + 1) (by omega) (by omega)) ?_
    simp only [if_true]
    refine Ev.bind (mt_ev (m + (i : Int) * 6 + 1 + 1) (by omega) (by omega)) ?_
    rw [show m + (i : Int) * 6 + 1 + 1 = m + (i : Int) * 6 + 2 by omega]
    simp only [if_true]
    simp only [show m + (i : Int) * 6 + 1 + 1 = m + (i : Int) * 6 + 2 by omega, show m + (i : Int) * 6 + 2 + 1 = m + (i : Int) * 6 + 3 by omega, show m + (i : Int) * 6 + 3 + 1 = m + (i : Int) * 6 + 4 by omega, show m + (i : Int) * 6 + 4 + 1 = m + (i : Int) * 6 + 5 by omega, show m + (i : Int) * 6 + 5 + 1 = m + (i : Int) * 6 + 6 by omega, if_true, bne_self_eq_false, Bool.false_eq_true, if_false]
    rw [show m + (i : Int) * 6 + 6 = m + ((i + 1 : Nat) : Int) * 6 by omega]
    exact ih
theorem heldLiveS_ev (n : Nat) (hn : n ≤ 1000000000) (m : Int) (hm : 0 ≤ m ∧ m ≤ 1000000000000) : Ev (fun k => laws_heldLiveS.f k (marks vLive 6 n m) m) (m + (n : Int) * 6) := by
  have := heldLiveS_l0 n hn m hm n 0 (by omega)
  simpa [laws_heldLiveS.f] using this
theorem FnExactLivesOf : laws_FnExactLivesOf.Pure := by
  intro a b c d m o q ha hb hc hd _ _
  refine Ev.rounds ?_
  unfold laws_FnExactLivesOf.f
  by_cases h : (o.size : Int) > 1048576
  · simp only [if_pos h]; exact Ev.now _
  by_cases h' : (q.size : Int) > 1048576
  · simp only [if_neg h, if_pos h']; exact Ev.now _
  simp only [if_neg h, if_neg h']
  obtain ⟨z, hz, hl⟩ := szState_ex a b c d ha.1 hb hc hd 1048576 (by omega)
  refine Ev.bind hz ?_
  by_cases h2 : z < 0
  · simp only [if_pos h2]; exact Ev.now _
  simp only [if_neg h2]
  have t := toState_ev a b c d (by omega) (by omega) (by omega) (by omega)
  have im := impl_LivesOf_ev a (b.map toTallyC) (c.map toLiveC) (d.map toCellC) m o q (by rw [List.length_map]; omega)
  have hL := livesF_len m o q (c.map toLiveC) []
  rw [List.length_map, List.length_nil] at hL
  generalize hR : livesF m o q (c.map toLiveC) [] = R at im hL
  have eq := eqLiveS_ev R (by omega)
  refine Ev.bind t (Ev.bind (by rw [← hR]; exact spec_LivesOf_ev a (b.map toTallyC) (c.map toLiveC) (d.map toCellC) m o q (by rw [List.length_map]; omega)) (Ev.bind t (Ev.bind im (Ev.bind eq ?_))))
  simp only [if_true]
  refine Ev.bind t (Ev.bind (eqState_ev _ _ _ _ (by omega) (by rw [List.length_map]; omega) (by rw [List.length_map]; omega) (by rw [List.length_map]; omega)) ?_)
  simp only [if_true]
  refine Ev.bind (markState_ev a (b.map toTallyC) (c.map toLiveC) (d.map toCellC) (by omega) (by rw [List.length_map]; omega) (by rw [List.length_map]; omega) (by rw [List.length_map]; omega) 1 (by omega)) ?_
  simp only [if_neg (show ¬ (1 + (a.length : Int) + ((b.map toTallyC).length : Int) * 3 + ((c.map toLiveC).length : Int) * 6 + ((d.map toCellC).length : Int) * 8) < 0 by omega)]
  refine Ev.bind eq ?_
  refine Ev.step (fun k => rfl) ?_
  simp only [laws_FnExactLivesOf.j0, Bool.not_true, Bool.false_eq_true, if_false]
  have hm := markLiveS_ev R (by omega) 1 (by omega)
  have hh := heldLiveS_ev R.length (by omega) 1 (by omega)
  refine Ev.bind hm (Ev.bind hh ?_)
  simp only [if_neg (show ¬ (1 + (R.length : Int) * 6) < 0 by omega), if_true]
  refine Ev.bind t (Ev.bind im (Ev.bind eq ?_))
  simp only [if_true]
  refine Ev.bind hh ?_
  simp only [if_neg (show ¬ (1 + (R.length : Int) * 6) < 0 by omega)]
  exact Ev.now _
end Go.Proofs.Ytmohbiagcbfkpaa.Pure
