/- The program's SameAct tells of every two acts what the reference's SameAct tells, and leaves both as they were.
No condition beyond those of the given row. -/
import Derived.Test.YtmohbiagcbfkpaaQActx0
import Derived.Test.YtmohbiagcbfkpaaQActx1
import Derived.Test.YtmohbiagcbfkpaaQActx2
import Derived.Test.YtmohbiagcbfkpaaQActx3
import Derived.Test.YtmohbiagcbfkpaaQActx4
import Derived.Test.YtmohbiagcbfkpaaStFnExactSameAct
import Derived.Test.YtmohbiagcbfkpaaPlain
namespace Go.Proofs.Ytmohbiagcbfkpaa.Pure
open Go.RowKit Go.Proofs.Ytmohbiagcbfkpaa.QAct Go.Proofs.Ytmohbiagcbfkpaa.Plain Go.Proofs.YtmohbiagcbfkpaaW.PrintWords Go.Proofs.YtmohbiagcbfkpaaW.PrintLast Go.Proofs.YtmohbiagcbfkpaaW.PrintMore

theorem szAct_ex (a b c : Int) (l : List Int) (d : Int) (s t : ByteArray) (e f g : Int) (hl : l.length ≤ 9223372036854775807) (hs : s.size ≤ 9223372036854775807) (ht : t.size ≤ 9223372036854775807) (left : Int) (h0 : 0 ≤ left ∧ left ≤ 1048576) :
    ∃ r, laws_szAct.f a b c l d s t e f g left = some r ∧ (r < 0 ∨ (0 ≤ r ∧ r ≤ left ∧ (l.length : Int) ≤ left ∧ (s.size : Int) ≤ left ∧ (t.size : Int) ≤ left)) := by
  unfold laws_szAct.f laws_szIntS.f
  rw [wi (n := left - (l.length : Int)) (by omega)]
  by_cases c1 : left - (l.length : Int) < 0
  · exact ⟨-1, by simp only [if_pos c1, Option.bind_some, if_pos (show (-1 : Int) < 0 by omega)], Or.inl (by omega)⟩
  simp only [if_neg c1, Option.bind_some]
  rw [wi (n := left - (l.length : Int) - (s.size : Int)) (by omega)]
  by_cases c2 : left - (l.length : Int) - (s.size : Int) < 0
  · exact ⟨-1, by simp only [if_pos c2], Or.inl (by omega)⟩
  simp only [if_neg c2]
  rw [wi (n := left - (l.length : Int) - (s.size : Int) - (t.size : Int)) (by omega)]
  by_cases c3 : left - (l.length : Int) - (s.size : Int) - (t.size : Int) < 0
  · exact ⟨-1, by simp only [if_pos c3], Or.inl (by omega)⟩
  · exact ⟨left - (l.length : Int) - (s.size : Int) - (t.size : Int), by simp only [if_neg c3], Or.inr (by omega)⟩

theorem toIntS_l0 (l : List Int) (hl : l.length ≤ 140737488351232) : ∀ d i, i + d = l.length → Ev (fun k => laws_toIntS.l0 k l (l.take i ++ List.replicate d 0) (i : Int)) l
  | 0, i, hi => by
    refine Ev.step (fun k => rfl) ?_
    simp only [laws_toIntS.l0, if_neg (show ¬ (i : Int) < (l.length : Int) by omega)]
    rw [show l.take i ++ List.replicate 0 0 = l by rw [List.take_of_length_le (by omega)]; simp]
    exact Ev.now _
  | d + 1, i, hi => by
    refine Ev.step (fun k => rfl) ?_
    have ih := toIntS_l0 l hl d (i + 1) (by omega)
    have e : (l.take i ++ List.replicate (d + 1) 0).set (i : Int).toNat (rd l (i : Int)) = l.take (i + 1) ++ List.replicate d 0 := take_set l 0 i d (by omega)
    simp only [laws_toIntS.l0, if_pos (show (i : Int) < (l.length : Int) by omega), if_pos (show (0 : Int) ≤ (i : Int) by omega), wr i (by omega),
      if_pos (show (i : Int) < ((l.take i ++ List.replicate (d + 1) 0).length : Int) by rw [List.length_append, List.length_take, List.length_replicate]; omega), e]
    exact ih
theorem toIntS_ev (l : List Int) (hl : l.length ≤ 17592186043904) : Ev (fun k => laws_toIntS.f k l) l := by
  unfold laws_toIntS.f
  simp only [if_pos (show (0 : Int) ≤ (l.length : Int) by omega), Int.toNat_natCast, if_pos (show l.length ≤ 35184372088832 by omega)]
  exact toIntS_l0 l (by omega) l.length 0 (by omega)

theorem toDot_eq (r s : Int) : laws_toDot.f r s = some (r, s) := rfl

theorem toAct_ev (a b c : Int) (l : List Int) (d : Int) (s t : ByteArray) (e f g : Int) (hl : l.length ≤ 1048576) : Ev (fun k => laws_toAct.f k a b c l d s t e f g) (a, b, c, l, d, s, t, e, f, g) := by
  unfold laws_toAct.f
  simp only [toDot_eq, Option.bind_some]
  exact Ev.bind (toIntS_ev l (by omega)) (Ev.now _)

theorem eqIntS_l0 (l : List Int) (hl : l.length ≤ 140737488351232) : ∀ d i, i + d = l.length → Ev (fun k => laws_eqIntS.l0 k l l (i : Int)) true
  | 0, i, hi => by
    refine Ev.step (fun k => rfl) ?_
    simp only [laws_eqIntS.l0, if_neg (show ¬ (i : Int) < (l.length : Int) by omega)]
    exact Ev.now _
  | d + 1, i, hi => by
    refine Ev.step (fun k => rfl) ?_
    simp only [laws_eqIntS.l0, if_pos (show (i : Int) < (l.length : Int) by omega), if_pos (show (0 : Int) ≤ (i : Int) by omega), if_true, wr i (by omega)]
    exact eqIntS_l0 l hl d (i + 1) (by omega)
theorem eqIntS_ev (l : List Int) (hl : l.length ≤ 140737488351232) : Ev (fun k => laws_eqIntS.f k l l) true := by
  unfold laws_eqIntS.f
  simp only [if_true]
  exact eqIntS_l0 l hl l.length 0 (by omega)

theorem eqDot_refl (r s : Int) : laws_eqDot.f r s r s = some true := by simp [laws_eqDot.f]

theorem eqAct_ev (a b c : Int) (l : List Int) (d : Int) (s t : ByteArray) (e f g : Int) (hl : l.length ≤ 140737488351232) : Ev (fun k => laws_eqAct.f k a b c l d s t e f g a b c l d s t e f g) true := by
  unfold laws_eqAct.f
  simp only [eqDot_refl, Option.bind_some, if_true]
  refine Ev.bind (eqIntS_ev l hl) ?_
  simp only [if_true]
  exact Ev.now _

def sameActB (a b c : Int) (l : List Int) (d : Int) (s t : ByteArray) (e f g : Int) (a' b' c' : Int) (l' : List Int) (d' : Int) (s' t' : ByteArray) (e' f' g' : Int) : Bool :=
  if (a == a' && (b == b')) = true then (if c = c' then (if l = l' then (if d = d' then (if s.toList = s'.toList then (if t.toList = t'.toList then (if e = e' then (f == f' && (g == g')) else false) else false) else false) else false) else false) else false) else false
theorem rd_ne (l l' : List Int) (i : Nat) (h : i < l.length) (h' : i < l'.length) (hne : rd l (i : Int) ≠ rd l' (i : Int)) : l.drop i ≠ l'.drop i := by
  intro he
  rw [drop_rd l i h, drop_rd l' i h'] at he
  injection he with h1 _
  exact hne h1
theorem rd_eq (l l' : List Int) (i : Nat) (h : i < l.length) (h' : i < l'.length) (he : rd l (i : Int) = rd l' (i : Int)) : (l.drop i = l'.drop i) ↔ (l.drop (i + 1) = l'.drop (i + 1)) := by
  rw [drop_rd l i h, drop_rd l' i h', he]
  simp

theorem l05Same_l0 (l l' : List Int) (hl : l.length ≤ 140737488351232) (he : l.length = l'.length) : ∀ d i, i + d = l.length → Ev (fun k => spec_l05Same.l0 k l l' (i : Int)) (decide (l.drop i = l'.drop i))
  | 0, i, hi => by
    refine Ev.step (fun k => rfl) ?_
    simp only [spec_l05Same.l0, if_neg (show ¬ (i : Int) < (l.length : Int) by omega), List.drop_eq_nil_of_le (show l.length ≤ i by omega), List.drop_eq_nil_of_le (show l'.length ≤ i by omega), decide_true]
    exact Ev.now _
  | d + 1, i, hi => by
    refine Ev.step (fun k => rfl) ?_
    simp only [spec_l05Same.l0, if_pos (show (i : Int) < (l.length : Int) by omega), if_pos (show (i : Int) < (l'.length : Int) by omega), if_pos (show (0 : Int) ≤ (i : Int) by omega), wr i (by omega)]
    by_cases c : rd l (i : Int) = rd l' (i : Int)
    · simp only [if_pos c, rd_eq l l' i (by omega) (by omega) c]
      exact l05Same_l0 l l' hl he d (i + 1) (by omega)
    · simp only [if_neg c, decide_eq_false (rd_ne l l' i (by omega) (by omega) c)]
      exact Ev.now _
theorem l05Same_ev (l l' : List Int) (hl : l.length ≤ 140737488351232) : Ev (fun k => spec_l05Same.f k l l') (decide (l = l')) := by
  unfold spec_l05Same.f
  by_cases c : (l.length : Int) = (l'.length : Int)
  · simp only [if_pos c]
    exact l05Same_l0 l l' hl (by omega) l.length 0 (by omega)
  · simp only [if_neg c]
    have : l ≠ l' := fun h => c (by rw [h])
    rw [decide_eq_false this]; exact Ev.now _

theorem spec_SameAct_ev (a b c : Int) (l : List Int) (d : Int) (s t : ByteArray) (e f g : Int) (a' b' c' : Int) (l' : List Int) (d' : Int) (s' t' : ByteArray) (e' f' g' : Int) (hl : l.length ≤ 140737488351232) :
    Ev (fun k => spec_SameAct.f k a b c l d s t e f g a' b' c' l' d' s' t' e' f' g') (sameActB a b c l d s t e f g a' b' c' l' d' s' t' e' f' g') := by
  unfold spec_SameAct.f sameActB
  by_cases h1 : (a == a' && (b == b')) = true
  · by_cases h2 : c = c'
    · simp only [if_pos h1, if_pos h2]
      refine Ev.bind (l05Same_ev l l' hl) ?_
      by_cases h3 : l = l'
      · simp only [decide_eq_true h3, if_pos h3, if_true]
        by_cases h4 : d = d'
        · by_cases h5 : s.toList = s'.toList
          · by_cases h6 : t.toList = t'.toList
            · by_cases h7 : e = e'
              · simp only [if_pos h4, if_pos h5, if_pos h6, if_pos h7]; exact Ev.now _
              · simp only [if_pos h4, if_pos h5, if_pos h6, if_neg h7]; exact Ev.now _
            · simp only [if_pos h4, if_pos h5, if_neg h6]; exact Ev.now _
          · simp only [if_pos h4, if_neg h5]; exact Ev.now _
        · simp only [if_neg h4]; exact Ev.now _
      · simp only [decide_eq_false h3, if_neg h3, Bool.false_eq_true, if_false]; exact Ev.now _
    · simp only [if_pos h1, if_neg h2]; exact Ev.now _
  · simp only [if_neg h1]; exact Ev.now _

theorem slicesEqual_l0 (l l' : List Int) (hl : l.length ≤ 140737488351232) (he : l.length = l'.length) : ∀ d i, i + d = l.length → Ev (fun k => slices_Equal_int_int.l0 k l l' (l.length : Int) (i : Int)) (decide (l.drop i = l'.drop i))
  | 0, i, hi => by
    refine Ev.step (fun k => rfl) ?_
    simp only [slices_Equal_int_int.l0, if_neg (show ¬ (i : Int) < (l.length : Int) by omega), List.drop_eq_nil_of_le (show l.length ≤ i by omega), List.drop_eq_nil_of_le (show l'.length ≤ i by omega), decide_true]
    exact Ev.now _
  | d + 1, i, hi => by
    refine Ev.step (fun k => rfl) ?_
    simp only [slices_Equal_int_int.l0, if_pos (show (i : Int) < (l.length : Int) by omega), if_pos (show (i : Int) < (l'.length : Int) by omega), if_pos (show (0 : Int) ≤ (i : Int) by omega), wr i (by omega)]
    by_cases c : rd l (i : Int) = rd l' (i : Int)
    · simp only [if_pos c, rd_eq l l' i (by omega) (by omega) c]
      exact slicesEqual_l0 l l' hl he d (i + 1) (by omega)
    · simp only [if_neg c, decide_eq_false (rd_ne l l' i (by omega) (by omega) c)]
      exact Ev.now _
theorem slicesEqual_ev (l l' : List Int) (hl : l.length ≤ 140737488351232) : Ev (fun k => slices_Equal_int_int.f k l l') (decide (l = l')) := by
  unfold slices_Equal_int_int.f
  by_cases c : (l.length : Int) = (l'.length : Int)
  · simp only [if_pos c]
    exact slicesEqual_l0 l l' hl (by omega) l.length 0 (by omega)
  · simp only [if_neg c]
    have : l ≠ l' := fun h => c (by rw [h])
    rw [decide_eq_false this]; exact Ev.now _

theorem impl_SameAct_ev (a b c : Int) (l : List Int) (d : Int) (s t : ByteArray) (e f g : Int) (a' b' c' : Int) (l' : List Int) (d' : Int) (s' t' : ByteArray) (e' f' g' : Int) (hl : l.length ≤ 140737488351232) :
    Ev (fun k => impl_SameAct.f k a b c l d s t e f g a' b' c' l' d' s' t' e' f' g') (sameActB a b c l d s t e f g a' b' c' l' d' s' t' e' f' g') := by
  unfold impl_SameAct.f sameActB
  by_cases h1 : (a == a' && (b == b')) = true
  · by_cases h2 : c = c'
    · simp only [if_pos h1, if_pos h2]
      refine Ev.bind (slicesEqual_ev l l' hl) ?_
      by_cases h3 : l = l'
      · simp only [decide_eq_true h3, if_pos h3, if_true]
        by_cases h4 : d = d'
        · by_cases h5 : s.toList = s'.toList
          · by_cases h6 : t.toList = t'.toList
            · by_cases h7 : e = e'
              · simp only [if_pos h4, if_pos h5, if_pos h6, if_pos h7]; exact Ev.now _
              · simp only [if_pos h4, if_pos h5, if_pos h6, if_neg h7]; exact Ev.now _
            · simp only [if_pos h4, if_pos h5, if_neg h6]; exact Ev.now _
          · simp only [if_pos h4, if_neg h5]; exact Ev.now _
        · simp only [if_neg h4]; exact Ev.now _
      · simp only [decide_eq_false h3, if_neg h3, Bool.false_eq_true, if_false]; exact Ev.now _
    · simp only [if_pos h1, if_neg h2]; exact Ev.now _
  · simp only [if_neg h1]; exact Ev.now _

theorem FnExactSameAct : laws_FnExactSameAct.Pure := by
  intro a b c l d s t e f g a' b' c' l' d' s' t' e' f' g' _ _ _ hl _ hs ht _ _ _ _ _ _ hl' _ hs' ht' _ _ _
  refine Ev.rounds ?_
  unfold laws_FnExactSameAct.f
  obtain ⟨r, hr, hc⟩ := szAct_ex a b c l d s t e f g hl.1 hs ht 1048576 (by omega)
  simp only [hr, Option.bind_some]
  by_cases c1 : r < 0
  · simp only [if_pos c1]; exact Ev.now _
  obtain ⟨r', hr', hc'⟩ := szAct_ex a' b' c' l' d' s' t' e' f' g' hl'.1 hs' ht' r (by omega)
  simp only [if_neg c1, hr', Option.bind_some]
  by_cases c2 : r' < 0
  · simp only [if_pos c2]; exact Ev.now _
  simp only [if_neg c2]
  have t1 := toAct_ev a b c l d s t e f g (by omega)
  have t2 := toAct_ev a' b' c' l' d' s' t' e' f' g' (by omega)
  refine Ev.bind t1 (Ev.bind t2 ?_)
  refine Ev.bind (spec_SameAct_ev a b c l d s t e f g a' b' c' l' d' s' t' e' f' g' (by omega)) ?_
  refine Ev.bind t1 (Ev.bind t2 ?_)
  refine Ev.bind (impl_SameAct_ev a b c l d s t e f g a' b' c' l' d' s' t' e' f' g' (by omega)) ?_
  simp only [bne_self_eq_false, Bool.false_eq_true, if_false]
  refine Ev.bind t1 (Ev.bind (eqAct_ev a b c l d s t e f g (by omega)) ?_)
  simp only [if_true]
  exact Ev.bind t2 (Ev.bind (eqAct_ev a' b' c' l' d' s' t' e' f' g' (by omega)) (Ev.now _))

end Go.Proofs.Ytmohbiagcbfkpaa.Pure
