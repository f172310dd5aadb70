/- The program's CellAt tells of every state and dot what the reference's CellAt tells, and leaves the state as it was.
No condition beyond those of the given row. -/
import Derived.Test.YtbanogkoaplcdaaQCellx0
import Derived.Test.YtbanogkoaplcdaaQCellx1
import Derived.Test.YtbanogkoaplcdaaQCellx2
import Derived.Test.YtbanogkoaplcdaaQCellx3
import Derived.Test.YtbanogkoaplcdaaQCellx4
import Derived.Test.YtbanogkoaplcdaaQCellx5
import Derived.Test.YtbanogkoaplcdaaQCellx6
import Derived.Test.YtbanogkoaplcdaaQCellx7
import Derived.Test.YtbanogkoaplcdaaStFnExactCellAt
import Derived.Test.YtbanogkoaplcdaaPlain
namespace Go.Proofs.Ytbanogkoaplcdaa.Pure
open Go.RowKit Go.Proofs.Ytbanogkoaplcdaa.QCell Go.Proofs.Ytbanogkoaplcdaa.Plain Go.Proofs.YtbanogkoaplcdaaW.PrintWords Go.Proofs.YtbanogkoaplcdaaW.PrintLast Go.Proofs.YtbanogkoaplcdaaW.PrintMore
set_option linter.unusedSimpArgs false
set_option linter.unusedVariables false

theorem rdL_Cell (l : List S118) (i : Nat) : rd_T118 l (i : Int) = l.getD i z118 := by unfold rd_T118; rw [Int.toNat_natCast]
theorem rdI_Cell (l : List S73) (i : Nat) : rd_T73 l (i : Int) = l.getD i z73 := by unfold rd_T73; rw [Int.toNat_natCast]

theorem cellIx_drop (a b : Int) (l : List S73) (i : Nat) (h : i < l.length) : cellIx a b (l.drop i) (i : Int) = if ((l.getD i z73).f1.f0 == a && ((l.getD i z73).f1.f1 == b)) = true then (i : Int) else cellIx a b (l.drop (i + 1)) (((i + 1 : Nat)) : Int) := by
  rw [drop_getD l i z73 h]
  simp only [cellIx]
  rw [show ((i + 1 : Nat) : Int) = (i : Int) + 1 by omega]
theorem spec_CellAt_l0 (x : List Int) (y : List S84) (z : List S86) (l : List S73) (a b : Int) (hl : l.length ≤ 140737488351232) : ∀ d i, i + d = l.length → Ev (fun k => spec_CellAt.l0 k (i : Int) x y z l a b) (cellIx a b (l.drop i) (i : Int))
  | 0, i, hi => by
    refine Ev.step (fun k => rfl) ?_
    simp only [spec_CellAt.l0, if_neg (show ¬ (i : Int) < (l.length : Int) by omega), List.drop_eq_nil_of_le (show l.length ≤ i by omega), cellIx]
    exact Ev.now _
  | d + 1, i, hi => by
    refine Ev.step (fun k => rfl) ?_
    have ih := spec_CellAt_l0 x y z l a b hl d (i + 1) (by omega)
    simp only [spec_CellAt.l0, if_pos (show (i : Int) < (l.length : Int) by omega), if_pos (show (0 : Int) ≤ (i : Int) by omega), wr i (by omega), rdI_Cell, cellIx_drop a b l i (by omega)]
    by_cases c1 : ((l.getD i z73).f1.f0 == a && ((l.getD i z73).f1.f1 == b)) = true
    · simp only [if_pos c1]; exact Ev.now _
    · simp only [if_neg c1]; exact ih
theorem spec_CellAt_ev (x : List Int) (y : List S84) (z : List S86) (l : List S73) (a b : Int) (hl : l.length ≤ 140737488351232) : Ev (fun k => spec_CellAt.f k x y z l a b) (cellIx a b l 0) := by
  have := spec_CellAt_l0 x y z l a b hl l.length 0 (by omega)
  simpa [spec_CellAt.f] using this

theorem rdL_Tally (l : List S112) (i : Nat) : rd_T112 l (i : Int) = l.getD i z112 := by unfold rd_T112; rw [Int.toNat_natCast]
theorem rdI_Tally (l : List S84) (i : Nat) : rd_T84 l (i : Int) = l.getD i z84 := by unfold rd_T84; rw [Int.toNat_natCast]

theorem szTally_ex (x : S112) (h0_ : x.f0.size ≤ 9223372036854775807) (left : Int) (h0 : 0 ≤ left ∧ left ≤ 1048576) : ∃ r, laws_szTally.f (x.f0) (x.f1) (x.f2) left = some r ∧ (r < 0 ∨ 0 ≤ r ∧ r ≤ left) := by
  unfold laws_szTally.f
  rw [wi (n := left - (x.f0.size : Int)) (by omega)]
  by_cases c : left - (x.f0.size : Int) < 0
  · exact ⟨-1, by rw [if_pos c], Or.inl (by omega)⟩
  · exact ⟨left - (x.f0.size : Int), by rw [if_neg c], Or.inr (by omega)⟩
theorem szTallyS_l0 (l : List S112) (hl : l.length ≤ 140737488351232) (hG : ∀ x ∈ l, G112 x) : ∀ d i left, i + d = l.length → (0 ≤ left ∧ left ≤ 1048576) → ∃ r, Ev (fun k => laws_szTallyS.l0 k l left (i : Int)) r ∧ (r < 0 ∨ 0 ≤ r ∧ r ≤ left)
  | 0, i, left, hi, h0 => ⟨left, by
    refine Ev.step (fun k => rfl) ?_
    simp only [laws_szTallyS.l0, if_neg (show ¬ (i : Int) < (l.length : Int) by omega)]
    exact Ev.now _, Or.inr (by omega)⟩
  | d + 1, i, left, hi, h0 => by
    have hm : l.getD i z112 ∈ l := by rw [getD_get l i _ (by omega)]; exact List.getElem_mem _
    have hg := hG _ hm
    obtain ⟨r, hr, hc⟩ := szTally_ex (l.getD i z112) hg.1 left h0
    by_cases c : r < 0
    · refine ⟨-1, ?_, Or.inl (by omega)⟩
      refine Ev.step (fun k => rfl) ?_
      simp only [laws_szTallyS.l0, if_pos (show (i : Int) < (l.length : Int) by omega), if_pos (show (0 : Int) ≤ (i : Int) by omega), rdL_Tally, hr, Option.bind_some, if_pos c]
      exact Ev.now _
    · obtain ⟨q, hq, hc2⟩ := szTallyS_l0 l hl hG d (i + 1) r (by omega) (by omega)
      refine ⟨q, ?_, by omega⟩
      refine Ev.step (fun k => rfl) ?_
      simp only [laws_szTallyS.l0, if_pos (show (i : Int) < (l.length : Int) by omega), if_pos (show (0 : Int) ≤ (i : Int) by omega), rdL_Tally, hr, Option.bind_some, if_neg c, wr i (by omega)]
      exact hq
theorem szTallyS_ex (l : List S112) (hl : l.length ≤ 9223372036854775807) (hG : ∀ x ∈ l, G112 x) (left : Int) (h0 : 0 ≤ left ∧ left ≤ 1048576) : ∃ r, Ev (fun k => laws_szTallyS.f k l left) r ∧ (r < 0 ∨ (0 ≤ r ∧ r ≤ left ∧ (l.length : Int) ≤ left)) := by
  unfold laws_szTallyS.f
  rw [wi (n := left - (l.length : Int)) (by omega)]
  by_cases c : left - (l.length : Int) < 0
  · exact ⟨-1, by simp only [if_pos c]; exact Ev.now _, Or.inl (by omega)⟩
  · obtain ⟨r, hr, hc⟩ := szTallyS_l0 l (by omega) hG l.length 0 (left - (l.length : Int)) (by omega) (by omega)
    exact ⟨r, by simp only [if_neg c]; exact hr, by omega⟩

theorem rdL_Live (l : List S115) (i : Nat) : rd_T115 l (i : Int) = l.getD i z115 := by unfold rd_T115; rw [Int.toNat_natCast]
theorem rdI_Live (l : List S86) (i : Nat) : rd_T86 l (i : Int) = l.getD i z86 := by unfold rd_T86; rw [Int.toNat_natCast]

theorem szLive_ex (x : S115) (h0_ : x.f1.size ≤ 9223372036854775807) (h1_ : x.f2.size ≤ 9223372036854775807) (left : Int) (h0 : 0 ≤ left ∧ left ≤ 1048576) : ∃ r, laws_szLive.f (x.f0) (x.f1) (x.f2) (x.f3) (x.f4.f0) (x.f4.f1) left = some r ∧ (r < 0 ∨ 0 ≤ r ∧ r ≤ left) := by
  unfold laws_szLive.f
  rw [wi (n := left - (x.f1.size : Int)) (by omega)]
  by_cases c : left - (x.f1.size : Int) < 0
  · exact ⟨-1, by rw [if_pos c], Or.inl (by omega)⟩
  · rw [if_neg c, wi (n := left - (x.f1.size : Int) - (x.f2.size : Int)) (by omega)]
    by_cases c2 : left - (x.f1.size : Int) - (x.f2.size : Int) < 0
    · exact ⟨-1, by rw [if_pos c2], Or.inl (by omega)⟩
    · exact ⟨_, by rw [if_neg c2], Or.inr (by omega)⟩
theorem szLiveS_l0 (l : List S115) (hl : l.length ≤ 140737488351232) (hG : ∀ x ∈ l, G115 x) : ∀ d i left, i + d = l.length → (0 ≤ left ∧ left ≤ 1048576) → ∃ r, Ev (fun k => laws_szLiveS.l0 k l left (i : Int)) r ∧ (r < 0 ∨ 0 ≤ r ∧ r ≤ left)
  | 0, i, left, hi, h0 => ⟨left, by
    refine Ev.step (fun k => rfl) ?_
    simp only [laws_szLiveS.l0, if_neg (show ¬ (i : Int) < (l.length : Int) by omega)]
    exact Ev.now _, Or.inr (by omega)⟩
  | d + 1, i, left, hi, h0 => by
    have hm : l.getD i z115 ∈ l := by rw [getD_get l i _ (by omega)]; exact List.getElem_mem _
    have hg := hG _ hm
    obtain ⟨r, hr, hc⟩ := szLive_ex (l.getD i z115) hg.2.1 hg.2.2.1 left h0
    by_cases c : r < 0
    · refine ⟨-1, ?_, Or.inl (by omega)⟩
      refine Ev.step (fun k => rfl) ?_
      simp only [laws_szLiveS.l0, if_pos (show (i : Int) < (l.length : Int) by omega), if_pos (show (0 : Int) ≤ (i : Int) by omega), rdL_Live, hr, Option.bind_some, if_pos c]
      exact Ev.now _
    · obtain ⟨q, hq, hc2⟩ := szLiveS_l0 l hl hG d (i + 1) r (by omega) (by omega)
      refine ⟨q, ?_, by omega⟩
      refine Ev.step (fun k => rfl) ?_
      simp only [laws_szLiveS.l0, if_pos (show (i : Int) < (l.length : Int) by omega), if_pos (show (0 : Int) ≤ (i : Int) by omega), rdL_Live, hr, Option.bind_some, if_neg c, wr i (by omega)]
      exact hq
theorem szLiveS_ex (l : List S115) (hl : l.length ≤ 9223372036854775807) (hG : ∀ x ∈ l, G115 x) (left : Int) (h0 : 0 ≤ left ∧ left ≤ 1048576) : ∃ r, Ev (fun k => laws_szLiveS.f k l left) r ∧ (r < 0 ∨ (0 ≤ r ∧ r ≤ left ∧ (l.length : Int) ≤ left)) := by
  unfold laws_szLiveS.f
  rw [wi (n := left - (l.length : Int)) (by omega)]
  by_cases c : left - (l.length : Int) < 0
  · exact ⟨-1, by simp only [if_pos c]; exact Ev.now _, Or.inl (by omega)⟩
  · obtain ⟨r, hr, hc⟩ := szLiveS_l0 l (by omega) hG l.length 0 (left - (l.length : Int)) (by omega) (by omega)
    exact ⟨r, by simp only [if_neg c]; exact hr, by omega⟩

theorem szCell_ex (x : S118) (h0_ : x.f0.size ≤ 9223372036854775807) (left : Int) (h0 : 0 ≤ left ∧ left ≤ 1048576) : ∃ r, laws_szCell.f (x.f0) (x.f1.f0) (x.f1.f1) (x.f2) (x.f3.f0) (x.f3.f1) (x.f4) (x.f5) left = some r ∧ (r < 0 ∨ 0 ≤ r ∧ r ≤ left) := by
  unfold laws_szCell.f
  rw [wi (n := left - (x.f0.size : Int)) (by omega)]
  by_cases c : left - (x.f0.size : Int) < 0
  · exact ⟨-1, by rw [if_pos c], Or.inl (by omega)⟩
  · exact ⟨left - (x.f0.size : Int), by rw [if_neg c], Or.inr (by omega)⟩
theorem szCellS_l0 (l : List S118) (hl : l.length ≤ 140737488351232) (hG : ∀ x ∈ l, G118 x) : ∀ d i left, i + d = l.length → (0 ≤ left ∧ left ≤ 1048576) → ∃ r, Ev (fun k => laws_szCellS.l0 k l left (i : Int)) r ∧ (r < 0 ∨ 0 ≤ r ∧ r ≤ left)
  | 0, i, left, hi, h0 => ⟨left, by
    refine Ev.step (fun k => rfl) ?_
    simp only [laws_szCellS.l0, if_neg (show ¬ (i : Int) < (l.length : Int) by omega)]
    exact Ev.now _, Or.inr (by omega)⟩
  | d + 1, i, left, hi, h0 => by
    have hm : l.getD i z118 ∈ l := by rw [getD_get l i _ (by omega)]; exact List.getElem_mem _
    have hg := hG _ hm
    obtain ⟨r, hr, hc⟩ := szCell_ex (l.getD i z118) hg.1 left h0
    by_cases c : r < 0
    · refine ⟨-1, ?_, Or.inl (by omega)⟩
      refine Ev.step (fun k => rfl) ?_
      simp only [laws_szCellS.l0, if_pos (show (i : Int) < (l.length : Int) by omega), if_pos (show (0 : Int) ≤ (i : Int) by omega), rdL_Cell, hr, Option.bind_some, if_pos c]
      exact Ev.now _
    · obtain ⟨q, hq, hc2⟩ := szCellS_l0 l hl hG d (i + 1) r (by omega) (by omega)
      refine ⟨q, ?_, by omega⟩
      refine Ev.step (fun k => rfl) ?_
      simp only [laws_szCellS.l0, if_pos (show (i : Int) < (l.length : Int) by omega), if_pos (show (0 : Int) ≤ (i : Int) by omega), rdL_Cell, hr, Option.bind_some, if_neg c, wr i (by omega)]
      exact hq
theorem szCellS_ex (l : List S118) (hl : l.length ≤ 9223372036854775807) (hG : ∀ x ∈ l, G118 x) (left : Int) (h0 : 0 ≤ left ∧ left ≤ 1048576) : ∃ r, Ev (fun k => laws_szCellS.f k l left) r ∧ (r < 0 ∨ (0 ≤ r ∧ r ≤ left ∧ (l.length : Int) ≤ left)) := by
  unfold laws_szCellS.f
  rw [wi (n := left - (l.length : Int)) (by omega)]
  by_cases c : left - (l.length : Int) < 0
  · exact ⟨-1, by simp only [if_pos c]; exact Ev.now _, Or.inl (by omega)⟩
  · obtain ⟨r, hr, hc⟩ := szCellS_l0 l (by omega) hG l.length 0 (left - (l.length : Int)) (by omega) (by omega)
    exact ⟨r, by simp only [if_neg c]; exact hr, by omega⟩

theorem szState_ex (a : List Int) (b : List S112) (c : List S115) (d : List S118) (ha : a.length ≤ 9223372036854775807) (hb : b.length ≤ 9223372036854775807 ∧ ∀ x ∈ b, G112 x) (hc : c.length ≤ 9223372036854775807 ∧ ∀ x ∈ c, G115 x) (hd : d.length ≤ 9223372036854775807 ∧ ∀ x ∈ d, G118 x)
    (left : Int) (h0 : 0 ≤ left ∧ left ≤ 1048576) : ∃ r, Ev (fun k => laws_szState.f k a b c d left) r ∧ (r < 0 ∨ (0 ≤ r ∧ r ≤ left ∧ (a.length : Int) ≤ left ∧ (b.length : Int) ≤ left ∧ (c.length : Int) ≤ left ∧ (d.length : Int) ≤ left)) := by
  unfold laws_szState.f laws_szIntS.f
  rw [wi (n := left - (a.length : Int)) (by omega)]
  by_cases c1 : left - (a.length : Int) < 0
  · exact ⟨-1, by simp only [if_pos c1, Option.bind_some, if_pos (show (-1 : Int) < 0 by omega)]; exact Ev.now _, Or.inl (by omega)⟩
  simp only [if_neg c1, Option.bind_some]
  obtain ⟨r1, e1, q1⟩ := szTallyS_ex b hb.1 hb.2 (left - (a.length : Int)) (by omega)
  by_cases c2 : r1 < 0
  · exact ⟨-1, Ev.bind e1 (by simp only [if_pos c2]; exact Ev.now _), Or.inl (by omega)⟩
  obtain ⟨r2, e2, q2⟩ := szLiveS_ex c hc.1 hc.2 r1 (by omega)
  by_cases c3 : r2 < 0
  · exact ⟨-1, Ev.bind e1 (by simp only [if_neg c2]; exact Ev.bind e2 (by simp only [if_pos c3]; exact Ev.now _)), Or.inl (by omega)⟩
  obtain ⟨r3, e3, q3⟩ := szCellS_ex d hd.1 hd.2 r2 (by omega)
  by_cases c4 : r3 < 0
  · exact ⟨-1, Ev.bind e1 (by simp only [if_neg c2]; exact Ev.bind e2 (by simp only [if_neg c3]; exact Ev.bind e3 (by simp only [if_pos c4]; exact Ev.now _))), Or.inl (by omega)⟩
  · exact ⟨r3, Ev.bind e1 (by simp only [if_neg c2]; exact Ev.bind e2 (by simp only [if_neg c3]; exact Ev.bind e3 (by simp only [if_neg c4]; exact Ev.now _))), Or.inr (by omega)⟩

theorem toIntS_l0 (l : List Int) (hl : l.length ≤ 140737488351232) : ∀ d i, i + d = l.length → Ev (fun k => laws_toIntS.l0 k l (l.take i ++ List.replicate d 0) (i : Int)) l
  | 0, i, hi => by
    refine Ev.step (fun k => rfl) ?_
    simp only [laws_toIntS.l0, if_neg (show ¬ (i : Int) < (l.length : Int) by omega)]
    rw [show l.take i ++ List.replicate 0 0 = l by rw [List.take_of_length_le (by omega)]; simp]
    exact Ev.now _
  | d + 1, i, hi => by
    refine Ev.step (fun k => rfl) ?_
    have ih := toIntS_l0 l hl d (i + 1) (by omega)
    have e : (l.take i ++ List.replicate (d + 1) 0).set (i : Int).toNat (rd l (i : Int)) = l.take (i + 1) ++ List.replicate d 0 := take_set l 0 i d (by omega)
    simp only [laws_toIntS.l0, if_pos (show (i : Int) < (l.length : Int) by omega), if_pos (show (0 : Int) ≤ (i : Int) by omega), wr i (by omega),
      if_pos (show (i : Int) < ((l.take i ++ List.replicate (d + 1) 0).length : Int) by rw [List.length_append, List.length_take, List.length_replicate]; omega), e]
    exact ih
theorem toIntS_ev (l : List Int) (hl : l.length ≤ 17592186043904) : Ev (fun k => laws_toIntS.f k l) l := by
  unfold laws_toIntS.f
  simp only [if_pos (show (0 : Int) ≤ (l.length : Int) by omega), Int.toNat_natCast, if_pos (show l.length ≤ 35184372088832 by omega)]
  exact toIntS_l0 l (by omega) l.length 0 (by omega)

theorem toDot_eq (r s : Int) : laws_toDot.f r s = some (r, s) := rfl

def toTallyC (x : S112) : S84 := ⟨x.f0, x.f1, x.f2⟩
theorem toTallyS_l0 (l : List S112) (hl : l.length ≤ 140737488351232) : ∀ d i, i + d = l.length → Ev (fun k => laws_toTallyS.l0 k l ((l.map toTallyC).take i ++ List.replicate d z84) (i : Int)) (l.map toTallyC)
  | 0, i, hi => by
    refine Ev.step (fun k => rfl) ?_
    simp only [laws_toTallyS.l0, if_neg (show ¬ (i : Int) < (l.length : Int) by omega)]
    rw [show (l.map toTallyC).take i ++ List.replicate 0 z84 = l.map toTallyC by rw [List.take_of_length_le (by rw [List.length_map]; omega)]; simp]
    exact Ev.now _
  | d + 1, i, hi => by
    refine Ev.step (fun k => rfl) ?_
    have ih := toTallyS_l0 l hl d (i + 1) (by omega)
    have e := set_mid (l.map toTallyC) z84 (toTallyC (l.getD i z112)) i d (by rw [List.length_map]; omega) (by rw [List.getElem_map, getD_get l i _ (by omega)])
    simp only [laws_toTallyS.l0, if_pos (show (i : Int) < (l.length : Int) by omega), if_pos (show (0 : Int) ≤ (i : Int) by omega), wr i (by omega), rdL_Tally, laws_toTally.f, Option.bind_some,
      if_pos (show (i : Int) < (((l.map toTallyC).take i ++ List.replicate (d + 1) z84).length : Int) by rw [List.length_append, List.length_take, List.length_replicate, List.length_map]; omega)]
    rw [show (⟨(l.getD i z112).f0, (l.getD i z112).f1, (l.getD i z112).f2⟩ : S84) = toTallyC (l.getD i z112) from rfl, e]
    exact ih
theorem toTallyS_ev (l : List S112) (hl : l.length ≤ 1048576) : Ev (fun k => laws_toTallyS.f k l) (l.map toTallyC) := by
  unfold laws_toTallyS.f
  simp only [if_pos (show (0 : Int) ≤ (l.length : Int) by omega), Int.toNat_natCast, if_pos (show l.length ≤ 8796093022208 by omega)]
  exact toTallyS_l0 l (by omega) l.length 0 (by omega)

def toLiveC (x : S115) : S86 := ⟨x.f0, x.f1, x.f2, x.f3, ⟨x.f4.f0, x.f4.f1⟩⟩
theorem toLiveS_l0 (l : List S115) (hl : l.length ≤ 140737488351232) : ∀ d i, i + d = l.length → Ev (fun k => laws_toLiveS.l0 k l ((l.map toLiveC).take i ++ List.replicate d z86) (i : Int)) (l.map toLiveC)
  | 0, i, hi => by
    refine Ev.step (fun k => rfl) ?_
    simp only [laws_toLiveS.l0, if_neg (show ¬ (i : Int) < (l.length : Int) by omega)]
    rw [show (l.map toLiveC).take i ++ List.replicate 0 z86 = l.map toLiveC by rw [List.take_of_length_le (by rw [List.length_map]; omega)]; simp]
    exact Ev.now _
  | d + 1, i, hi => by
    refine Ev.step (fun k => rfl) ?_
    have ih := toLiveS_l0 l hl d (i + 1) (by omega)
    have e := set_mid (l.map toLiveC) z86 (toLiveC (l.getD i z115)) i d (by rw [List.length_map]; omega) (by rw [List.getElem_map, getD_get l i _ (by omega)])
    simp only [laws_toLiveS.l0, if_pos (show (i : Int) < (l.length : Int) by omega), if_pos (show (0 : Int) ≤ (i : Int) by omega), wr i (by omega), rdL_Live, laws_toLive.f, toDot_eq, Option.bind_some,
      if_pos (show (i : Int) < (((l.map toLiveC).take i ++ List.replicate (d + 1) z86).length : Int) by rw [List.length_append, List.length_take, List.length_replicate, List.length_map]; omega)]
    rw [show (⟨(l.getD i z115).f0, (l.getD i z115).f1, (l.getD i z115).f2, (l.getD i z115).f3, ⟨(l.getD i z115).f4.f0, (l.getD i z115).f4.f1⟩⟩ : S86) = toLiveC (l.getD i z115) from rfl, e]
    exact ih
theorem toLiveS_ev (l : List S115) (hl : l.length ≤ 1048576) : Ev (fun k => laws_toLiveS.f k l) (l.map toLiveC) := by
  unfold laws_toLiveS.f
  simp only [if_pos (show (0 : Int) ≤ (l.length : Int) by omega), Int.toNat_natCast, if_pos (show l.length ≤ 4398046511104 by omega)]
  exact toLiveS_l0 l (by omega) l.length 0 (by omega)

def toCellC (x : S118) : S73 := ⟨x.f0, ⟨x.f1.f0, x.f1.f1⟩, x.f2, ⟨x.f3.f0, x.f3.f1⟩, x.f4, x.f5⟩
theorem toCellS_l0 (l : List S118) (hl : l.length ≤ 140737488351232) : ∀ d i, i + d = l.length → Ev (fun k => laws_toCellS.l0 k l ((l.map toCellC).take i ++ List.replicate d z73) (i : Int)) (l.map toCellC)
  | 0, i, hi => by
    refine Ev.step (fun k => rfl) ?_
    simp only [laws_toCellS.l0, if_neg (show ¬ (i : Int) < (l.length : Int) by omega)]
    rw [show (l.map toCellC).take i ++ List.replicate 0 z73 = l.map toCellC by rw [List.take_of_length_le (by rw [List.length_map]; omega)]; simp]
    exact Ev.now _
  | d + 1, i, hi => by
    refine Ev.step (fun k => rfl) ?_
    have ih := toCellS_l0 l hl d (i + 1) (by omega)
    have e := set_mid (l.map toCellC) z73 (toCellC (l.getD i z118)) i d (by rw [List.length_map]; omega) (by rw [List.getElem_map, getD_get l i _ (by omega)])
    simp only [laws_toCellS.l0, if_pos (show (i : Int) < (l.length : Int) by omega), if_pos (show (0 : Int) ≤ (i : Int) by omega), wr i (by omega), rdL_Cell, laws_toCell.f, toDot_eq, Option.bind_some,
      if_pos (show (i : Int) < (((l.map toCellC).take i ++ List.replicate (d + 1) z73).length : Int) by rw [List.length_append, List.length_take, List.length_replicate, List.length_map]; omega)]
    rw [show (⟨(l.getD i z118).f0, ⟨(l.getD i z118).f1.f0, (l.getD i z118).f1.f1⟩, (l.getD i z118).f2, ⟨(l.getD i z118).f3.f0, (l.getD i z118).f3.f1⟩, (l.getD i z118).f4, (l.getD i z118).f5⟩ : S73) = toCellC (l.getD i z118) from rfl, e]
    exact ih
theorem toCellS_ev (l : List S118) (hl : l.length ≤ 1048576) : Ev (fun k => laws_toCellS.f k l) (l.map toCellC) := by
  unfold laws_toCellS.f
  simp only [if_pos (show (0 : Int) ≤ (l.length : Int) by omega), Int.toNat_natCast, if_pos (show l.length ≤ 3909374676536 by omega)]
  exact toCellS_l0 l (by omega) l.length 0 (by omega)

theorem toState_ev (a : List Int) (b : List S112) (c : List S115) (d : List S118) (ha : a.length ≤ 1048576) (hb : b.length ≤ 1048576) (hc : c.length ≤ 1048576) (hd : d.length ≤ 1048576) :
    Ev (fun k => laws_toState.f k a b c d) (a, b.map toTallyC, c.map toLiveC, d.map toCellC) := by
  unfold laws_toState.f
  exact Ev.bind (toIntS_ev a (by omega)) (Ev.bind (toTallyS_ev b hb) (Ev.bind (toLiveS_ev c hc) (Ev.bind (toCellS_ev d hd) (Ev.now _))))

theorem eqIntS_l0 (l : List Int) (hl : l.length ≤ 140737488351232) : ∀ d i, i + d = l.length → Ev (fun k => laws_eqIntS.l0 k l l (i : Int)) true
  | 0, i, hi => by
    refine Ev.step (fun k => rfl) ?_
    simp only [laws_eqIntS.l0, if_neg (show ¬ (i : Int) < (l.length : Int) by omega)]
    exact Ev.now _
  | d + 1, i, hi => by
    refine Ev.step (fun k => rfl) ?_
    simp only [laws_eqIntS.l0, if_pos (show (i : Int) < (l.length : Int) by omega), if_pos (show (0 : Int) ≤ (i : Int) by omega), if_true, wr i (by omega)]
    exact eqIntS_l0 l hl d (i + 1) (by omega)
theorem eqIntS_ev (l : List Int) (hl : l.length ≤ 140737488351232) : Ev (fun k => laws_eqIntS.f k l l) true := by
  unfold laws_eqIntS.f
  simp only [if_true]
  exact eqIntS_l0 l hl l.length 0 (by omega)

theorem eqDot_refl (r s : Int) : laws_eqDot.f r s r s = some true := by simp [laws_eqDot.f]

theorem eqTally_refl (x : S84) : laws_eqTally.f (x.f0) (x.f1) (x.f2) (x.f0) (x.f1) (x.f2) = some true := by simp [laws_eqTally.f]
theorem eqTallyS_l0 (l : List S84) (hl : l.length ≤ 140737488351232) : ∀ d i, i + d = l.length → Ev (fun k => laws_eqTallyS.l0 k l l (i : Int)) true
  | 0, i, hi => by
    refine Ev.step (fun k => rfl) ?_
    simp only [laws_eqTallyS.l0, if_neg (show ¬ (i : Int) < (l.length : Int) by omega)]
    exact Ev.now _
  | d + 1, i, hi => by
    refine Ev.step (fun k => rfl) ?_
    simp only [laws_eqTallyS.l0, if_pos (show (i : Int) < (l.length : Int) by omega), if_pos (show (0 : Int) ≤ (i : Int) by omega), eqTally_refl, Option.bind_some, if_true, wr i (by omega)]
    exact eqTallyS_l0 l hl d (i + 1) (by omega)
theorem eqTallyS_ev (l : List S84) (hl : l.length ≤ 140737488351232) : Ev (fun k => laws_eqTallyS.f k l l) true := by
  unfold laws_eqTallyS.f
  simp only [if_true]
  exact eqTallyS_l0 l hl l.length 0 (by omega)

theorem eqLive_refl (x : S86) : laws_eqLive.f (x.f0) (x.f1) (x.f2) (x.f3) (x.f4.f0) (x.f4.f1) (x.f0) (x.f1) (x.f2) (x.f3) (x.f4.f0) (x.f4.f1) = some true := by simp [laws_eqLive.f, eqDot_refl]
theorem eqLiveS_l0 (l : List S86) (hl : l.length ≤ 140737488351232) : ∀ d i, i + d = l.length → Ev (fun k => laws_eqLiveS.l0 k l l (i : Int)) true
  | 0, i, hi => by
    refine Ev.step (fun k => rfl) ?_
    simp only [laws_eqLiveS.l0, if_neg (show ¬ (i : Int) < (l.length : Int) by omega)]
    exact Ev.now _
  | d + 1, i, hi => by
    refine Ev.step (fun k => rfl) ?_
    simp only [laws_eqLiveS.l0, if_pos (show (i : Int) < (l.length : Int) by omega), if_pos (show (0 : Int) ≤ (i : Int) by omega), eqLive_refl, Option.bind_some, if_true, wr i (by omega)]
    exact eqLiveS_l0 l hl d (i + 1) (by omega)
theorem eqLiveS_ev (l : List S86) (hl : l.length ≤ 140737488351232) : Ev (fun k => laws_eqLiveS.f k l l) true := by
  unfold laws_eqLiveS.f
  simp only [if_true]
  exact eqLiveS_l0 l hl l.length 0 (by omega)

theorem eqCell_refl (x : S73) : laws_eqCell.f (x.f0) (x.f1.f0) (x.f1.f1) (x.f2) (x.f3.f0) (x.f3.f1) (x.f4) (x.f5) (x.f0) (x.f1.f0) (x.f1.f1) (x.f2) (x.f3.f0) (x.f3.f1) (x.f4) (x.f5) = some true := by simp [laws_eqCell.f, eqDot_refl]
theorem eqCellS_l0 (l : List S73) (hl : l.length ≤ 140737488351232) : ∀ d i, i + d = l.length → Ev (fun k => laws_eqCellS.l0 k l l (i : Int)) true
  | 0, i, hi => by
    refine Ev.step (fun k => rfl) ?_
    simp only [laws_eqCellS.l0, if_neg (show ¬ (i : Int) < (l.length : Int) by omega)]
    exact Ev.now _
  | d + 1, i, hi => by
    refine Ev.step (fun k => rfl) ?_
    simp only [laws_eqCellS.l0, if_pos (show (i : Int) < (l.length : Int) by omega), if_pos (show (0 : Int) ≤ (i : Int) by omega), eqCell_refl, Option.bind_some, if_true, wr i (by omega)]
    exact eqCellS_l0 l hl d (i + 1) (by omega)
theorem eqCellS_ev (l : List S73) (hl : l.length ≤ 140737488351232) : Ev (fun k => laws_eqCellS.f k l l) true := by
  unfold laws_eqCellS.f
  simp only [if_true]
  exact eqCellS_l0 l hl l.length 0 (by omega)

theorem eqState_ev (a : List Int) (b : List S84) (c : List S86) (d : List S73) (ha : a.length ≤ 140737488351232) (hb : b.length ≤ 140737488351232) (hc : c.length ≤ 140737488351232) (hd : d.length ≤ 140737488351232) :
    Ev (fun k => laws_eqState.f k a b c d a b c d) true := by
  unfold laws_eqState.f
  refine Ev.bind (eqIntS_ev a ha) ?_
  simp only [if_true]
  refine Ev.bind (eqTallyS_ev b hb) ?_
  simp only [if_true]
  refine Ev.bind (eqLiveS_ev c hc) ?_
  simp only [if_true]
  exact Ev.bind (eqCellS_ev d hd) (Ev.now _)

theorem FnExactCellAt : laws_FnExactCellAt.Pure := by
  intro a b c d o r ha hb hc hd _ _
  refine Ev.rounds ?_
  unfold laws_FnExactCellAt.f
  obtain ⟨q, hq, hl⟩ := szState_ex a b c d ha.1 hb hc hd 1048576 (by omega)
  refine Ev.bind hq ?_
  by_cases h2 : q < 0
  · simp only [if_pos h2]; exact Ev.now _
  simp only [if_neg h2]
  have t := toState_ev a b c d (by omega) (by omega) (by omega) (by omega)
  simp only [toDot_eq, Option.bind_some]
  refine Ev.bind t (Ev.bind (spec_CellAt_ev _ _ _ _ o r (by rw [List.length_map]; omega)) (Ev.bind t ?_))
  simp only [impl_CellAt.f, if_pos (show (d.map toCellC).length ≤ 4611686018427387904 by rw [List.length_map]; omega), Option.bind_some, if_true]
  refine Ev.bind t (Ev.bind (eqState_ev _ _ _ _ (by omega) (by rw [List.length_map]; omega) (by rw [List.length_map]; omega) (by rw [List.length_map]; omega)) ?_)
  simp only [if_true]
  exact Ev.now _

end Go.Proofs.Ytbanogkoaplcdaa.Pure
