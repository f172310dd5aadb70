/- The program's ActOk tells of every act what the reference's ActOk tells, and leaves it as it was.
No condition beyond those of the given row. -/
import Derived.Test.YtmohbiagcbfkpaaVFnExactActOkQActx0
import Derived.Test.YtmohbiagcbfkpaaVFnExactActOkQActx1
import Derived.Test.YtmohbiagcbfkpaaVFnExactActOkQActx2
import Derived.Test.YtmohbiagcbfkpaaVFnExactActOkQActx3
import Derived.Test.YtmohbiagcbfkpaaVFnExactActOkQActx4
import Derived.Test.YtmohbiagcbfkpaaVFnExactActOkQActx5
import Derived.Test.YtmohbiagcbfkpaaVFnExactActOkQActx6
import Derived.Test.YtmohbiagcbfkpaaVFnExactActOkQActx7
import Derived.Test.YtmohbiagcbfkpaaVFnExactActOkQActx8
import Derived.Test.YtmohbiagcbfkpaaVFnExactActOkQActx9
import Derived.Test.YtmohbiagcbfkpaaVFnExactActOkQActx10
import Derived.Test.YtmohbiagcbfkpaaVFnExactActOkQActx11
import Derived.Test.YtmohbiagcbfkpaaVFnExactActOkSt
import Derived.Test.YtmohbiagcbfkpaaVFnExactActOkPlain
namespace Go.Proofs.Ytmohbiagcbfkpaa.Pure
open Go.RowKit Go.Proofs.Ytmohbiagcbfkpaa.QAct Go.Proofs.Ytmohbiagcbfkpaa.Plain Go.Proofs.YtmohbiagcbfkpaaW.PrintWords Go.Proofs.YtmohbiagcbfkpaaW.PrintLast Go.Proofs.YtmohbiagcbfkpaaW.PrintMore
set_option linter.unusedSimpArgs false
set_option linter.unusedVariables false
theorem szAct_ex (a b c : Int) (l : List Int) (d : Int) (s t : ByteArray) (e f g : Int) (hl : l.length ≤ 9223372036854775807) (hs : s.size ≤ 9223372036854775807) (ht : t.size ≤ 9223372036854775807) (left : Int) (h0 : 0 ≤ left ∧ left ≤ 1048576) :
    ∃ r, laws_szAct.f a b c l d s t e f g left = some r ∧ (r < 0 ∨ (0 ≤ r ∧ r ≤ left ∧ (l.length : Int) ≤ left ∧ (s.size : Int) ≤ left ∧ (t.size : Int) ≤ left)) := by
  unfold laws_szAct.f laws_szIntS.f
  rw [wi (n := left - (l.length : Int)) (by omega)]
  by_cases c1 : left - (l.length : Int) < 0
  · exact ⟨-1, by simp only [if_pos c1, Option.bind_some, if_pos (show (-1 : Int) < 0 by omega)], Or.inl (by omega)⟩
  simp only [if_neg c1, Option.bind_some]
  rw [wi (n := left - (l.length : Int) - (s.size : Int)) (by omega)]
  by_cases c2 : left - (l.length : Int) - (s.size : Int) < 0
  · exact ⟨-1, by simp only [if_pos c2], Or.inl (by omega)⟩
  simp only [if_neg c2]
  rw [wi (n := left - (l.length : Int) - (s.size : Int) - (t.size : Int)) (by omega)]
  by_cases c3 : left - (l.length : Int) - (s.size : Int) - (t.size : Int) < 0
  · exact ⟨-1, by simp only [if_pos c3], Or.inl (by omega)⟩
  · exact ⟨left - (l.length : Int) - (s.size : Int) - (t.size : Int), by simp only [if_neg c3], Or.inr (by omega)⟩
theorem toIntS_l0 (l : List Int) (hl : l.length ≤ 140737488351232) : ∀ d i, i + d = l.length → Ev (fun k => laws_toIntS.l0 k l (l.take i ++ List.replicate d 0) (i : Int)) l
  | 0, i, hi => by
    refine Ev.step (fun k => rfl) ?_
    simp only [laws_toIntS.l0, if_neg (show ¬ (i : Int) < (l.length : Int) by omega)]
    rw [show l.take i ++ List.replicate 0 0 = l by rw [List.take_of_length_le (by omega)]; simp]
    exact Ev.now _
  | d + 1, i, hi => by
    refine Ev.step (fun k => rfl) ?_
    have ih := toIntS_l0 l hl d (i + 1) (by omega)
    have e : (l.take i ++ List.replicate (d + 1) 0).set (i : Int).toNat (rd l (i : Int)) = l.take (i + 1) ++ List.replicate d 0 := take_set l 0 i d (by omega)
    simp only [laws_toIntS.l0, if_pos (show (i : Int) < (l.length : Int) by omega), if_pos (show (0 : Int) ≤ (i : Int) by omega), wr i (by omega),
      if_pos (show (i : Int) < ((l.take i ++ List.replicate (d + 1) 0).length : Int) by rw [List.length_append, List.length_take, List.length_replicate]; omega), e]
    exact ih
theorem toIntS_ev (l : List Int) (hl : l.length ≤ 17592186043904) : Ev (fun k => laws_toIntS.f k l) l := by
  unfold laws_toIntS.f
  simp only [if_pos (show (0 : Int) ≤ (l.length : Int) by omega), Int.toNat_natCast, if_pos (show l.length ≤ 35184372088832 by omega)]
  exact toIntS_l0 l (by omega) l.length 0 (by omega)
theorem toDot_eq (r s : Int) : laws_toDot.f r s = some (r, s) := rfl
theorem toAct_ev (a b c : Int) (l : List Int) (d : Int) (s t : ByteArray) (e f g : Int) (hl : l.length ≤ 1048576) : Ev (fun k => laws_toAct.f k a b c l d s t e f g) (a, b, c, l, d, s, t, e, f, g) := by
  unfold laws_toAct.f
  simp only [toDot_eq, Option.bind_some]
  exact Ev.bind (toIntS_ev l (by omega)) (Ev.now _)
theorem eqIntS_l0 (l : List Int) (hl : l.length ≤ 140737488351232) : ∀ d i, i + d = l.length → Ev (fun k => laws_eqIntS.l0 k l l (i : Int)) true
  | 0, i, hi => by
    refine Ev.step (fun k => rfl) ?_
    simp only [laws_eqIntS.l0, if_neg (show ¬ (i : Int) < (l.length : Int) by omega)]
    exact Ev.now _
  | d + 1, i, hi => by
    refine Ev.step (fun k => rfl) ?_
    simp only [laws_eqIntS.l0, if_pos (show (i : Int) < (l.length : Int) by omega), if_pos (show (0 : Int) ≤ (i : Int) by omega), if_true, wr i (by omega)]
    exact eqIntS_l0 l hl d (i + 1) (by omega)
theorem eqIntS_ev (l : List Int) (hl : l.length ≤ 140737488351232) : Ev (fun k => laws_eqIntS.f k l l) true := by
  unfold laws_eqIntS.f
  simp only [if_true]
  exact eqIntS_l0 l hl l.length 0 (by omega)
theorem eqDot_refl (r s : Int) : laws_eqDot.f r s r s = some true := by simp [laws_eqDot.f]
theorem eqAct_ev (a b c : Int) (l : List Int) (d : Int) (s t : ByteArray) (e f g : Int) (hl : l.length ≤ 140737488351232) : Ev (fun k => laws_eqAct.f k a b c l d s t e f g a b c l d s t e f g) true := by
  unfold laws_eqAct.f
  simp only [eqDot_refl, Option.bind_some, if_true]
  refine Ev.bind (eqIntS_ev l hl) ?_
  simp only [if_true]
  exact Ev.now _
def nameB (s : ByteArray) : Nat → Nat → Bool
  | 0, _ => inB (s.size : Int) 1 8
  | d + 1, i => if inB (bt s (i : Int)) 97 122 = true then nameB s d (i + 1) else false
theorem toL (s : ByteArray) : s.toList = s.data.toList := ByteArray.toList_eq s
theorem len_toL (s : ByteArray) : s.toList.length = s.size := by rw [toL, Array.length_toList]; rfl
def nm (s : ByteArray) : Bool := nameB s s.size 0
def valuedB (kind : Int) : Bool := if kind = 1 then true else if kind = 4 then true else (kind == 6)
def valB (kind val : Int) : Bool := if val = 0 then true else if valuedB kind = true then inB val 0 999999 else false
def wordsB (kind : Int) (obj key : ByteArray) (val : Int) : Bool :=
  if inB kind 1 7 = true then (if nm obj = true then (if inB kind 2 5 = true then (if nm key = true then valB kind val else false) else (if key.toList = [] then valB kind val else false)) else false) else false
theorem nm_empty {s : ByteArray} (h : s.toList = []) : nm s = false := by
  have hz : s.size = 0 := by have := len_toL s; rw [h] at this; simpa using this.symm
  unfold nm
  rw [hz, nameB, hz]; rfl
def knowB (l : List Int) : Bool := (l.all fun x => inB x 0 1000) && ((l.length : Int) == 3)
theorem all_drop (l : List Int) (i : Nat) (h : i < l.length) : ((l.drop i).all fun x => inB x 0 1000) = (inB (rd l (i : Int)) 0 1000 && (l.drop (i + 1)).all fun x => inB x 0 1000) := by
  rw [drop_rd l i h]; rfl
def dotB (r s : Int) : Bool := if inB r 0 2 = true then inB s 1 1000 else false
def knowsB (l : List Int) (r s : Int) : Bool := if knowB l = true then (if dotB r s = true then decide (s ≤ rd l r) else false) else false
def refB (kind : Int) (knew : List Int) (r s : Int) : Bool := if kind = 7 then knowsB knew r s else if kind = 6 then (if (r == 0 && (s == 0)) = true then true else knowsB knew r s) else (r == 0 && (s == 0))
def actB (rep seq time : Int) (knew : List Int) (kind : Int) (obj key : ByteArray) (val r s : Int) : Bool :=
  if dotB rep seq = true then (if knowB knew = true then (if rd knew rep = seq - 1 then (if inB time 1 10000 = true then (if wordsB kind obj key val = true then refB kind knew r s else false) else false) else false) else false) else false
theorem dotB_true {r s : Int} (h : dotB r s = true) : (0 ≤ r ∧ r ≤ 2) ∧ 1 ≤ s ∧ s ≤ 1000 := by
  unfold dotB at h
  by_cases c : inB r 0 2 = true
  · rw [if_pos c] at h; exact ⟨inB_true.1 c, inB_true.1 h⟩
  · simp [c] at h
theorem know_len {l : List Int} (h : knowB l = true) : (l.length : Int) = 3 := by
  unfold knowB at h
  simp only [Bool.and_eq_true, beq_iff_eq] at h
  exact h.2
theorem spec_in (x lo hi : Int) : spec_l01In.f x lo hi = some (inB x lo hi) := in_ite x lo hi
theorem spec_KnowOk_l0 (l : List Int) (hl : l.length ≤ 140737488351232) : ∀ d i, i + d = l.length → Ev (fun k => spec_KnowOk.l0 k l (i : Int)) (((l.drop i).all fun x => inB x 0 1000) && ((l.length : Int) == 3))
  | 0, i, hi => by
    refine Ev.step (fun k => rfl) ?_
    simp only [spec_KnowOk.l0, if_neg (show ¬ (i : Int) < (l.length : Int) by omega), List.drop_eq_nil_of_le (show l.length ≤ i by omega), List.all_nil, Bool.true_and]
    exact Ev.now _
  | d + 1, i, hi => by
    refine Ev.step (fun k => rfl) ?_
    have ih := spec_KnowOk_l0 l hl d (i + 1) (by omega)
    simp only [spec_KnowOk.l0, if_pos (show (i : Int) < (l.length : Int) by omega), if_pos (show (0 : Int) ≤ (i : Int) by omega), wr i (by omega), spec_in, Option.bind_some, all_drop l i (by omega)]
    cases inB (rd l (i : Int)) 0 1000
    · exact Ev.now _
    · exact ih
theorem spec_KnowOk_ev (l : List Int) (hl : l.length ≤ 140737488351232) : Ev (fun k => spec_KnowOk.f k l) (knowB l) := spec_KnowOk_l0 l hl l.length 0 (by omega)
theorem spec_DotOk_eq (r s : Int) : spec_DotOk.f r s = some (dotB r s) := by
  unfold spec_DotOk.f dotB
  simp only [spec_in, Option.bind_some]
  split <;> rfl
theorem spec_Knows_ev (l : List Int) (r s : Int) (hl : l.length ≤ 140737488351232) : Ev (fun k => spec_Knows.f k l r s) (knowsB l r s) := by
  unfold spec_Knows.f knowsB
  refine Ev.bind (spec_KnowOk_ev l hl) ?_
  by_cases ka : knowB l = true
  · simp only [if_pos ka, spec_DotOk_eq, Option.bind_some]
    by_cases kd : dotB r s = true
    · simp only [if_pos kd]
      have h1 : 0 ≤ r ∧ r ≤ 2 := by
        unfold dotB at kd
        by_cases c : inB r 0 2 = true
        · exact inB_true.1 c
        · simp [c] at kd
      have h2 : (l.length : Int) = 3 := by
        unfold knowB at ka
        simp only [Bool.and_eq_true, beq_iff_eq] at ka
        exact ka.2
      simp only [if_pos h1.1, if_pos (show r < (l.length : Int) by omega)]
      exact Ev.now _
    · simp only [if_neg kd]; exact Ev.now _
  · simp only [if_neg ka]; exact Ev.now _
theorem spec_NameOk_l0 (s : ByteArray) (hs : s.size ≤ 140737488351232) : ∀ d i, i + d = s.size → Ev (fun k => spec_NameOk.l0 k s (i : Int)) (nameB s d i)
  | 0, i, hi => by
    refine Ev.step (fun k => rfl) ?_
    simp only [spec_NameOk.l0, if_neg (show ¬ (i : Int) < (s.size : Int) by omega), spec_in, Option.bind_some]
    exact Ev.now _
  | d + 1, i, hi => by
    refine Ev.step (fun k => rfl) ?_
    have ih := spec_NameOk_l0 s hs d (i + 1) (by omega)
    have hb := bt_range s (i : Int)
    simp only [spec_NameOk.l0, if_pos (show (i : Int) < (s.size : Int) by omega), if_pos (show (0 : Int) ≤ (i : Int) by omega), wr i (by omega), nameB]
    by_cases h1 : bt s (i : Int) < 97
    · simp only [if_pos h1, inB_false.2 (show ¬ (97 ≤ bt s (i : Int) ∧ bt s (i : Int) ≤ 122) by omega)]
      exact Ev.now _
    · by_cases h2 : bt s (i : Int) > 122
      · simp only [if_neg h1, if_pos h2, inB_false.2 (show ¬ (97 ≤ bt s (i : Int) ∧ bt s (i : Int) ≤ 122) by omega)]
        exact Ev.now _
      · simp only [if_neg h1, if_neg h2, inB_true.2 (show 97 ≤ bt s (i : Int) ∧ bt s (i : Int) ≤ 122 by omega), if_true]
        exact ih
theorem spec_NameOk_ev (s : ByteArray) (hs : s.size ≤ 140737488351232) : Ev (fun k => spec_NameOk.f k s) (nameB s s.size 0) := spec_NameOk_l0 s hs s.size 0 (by omega)
theorem spec_l05Keyed_eq (kind : Int) : spec_l05Keyed.f kind = some (inB kind 2 5) := by simp [spec_l05Keyed.f, spec_in]
theorem spec_l05Valued_eq (kind : Int) : spec_l05Valued.f kind = some (valuedB kind) := by
  unfold spec_l05Valued.f valuedB
  split
  · rfl
  · split <;> rfl
theorem spec_l05Plain_j0 (kind val : Int) : Ev (fun k => spec_l05Plain.j0 k kind val false) (valB kind val) := by
  refine Ev.step (fun k => rfl) ?_
  simp only [spec_l05Plain.j0, Bool.false_eq_true, if_false, spec_l05Valued_eq, Option.bind_some, spec_in, valB]
  by_cases c : val = 0
  · simp only [if_pos c]; exact Ev.now _
  · simp only [if_neg c]
    by_cases c2 : valuedB kind = true
    · simp only [if_pos c2]; exact Ev.now _
    · simp only [if_neg c2]; exact Ev.now _
theorem spec_l05Plain_no (kind val : Int) : Ev (fun k => spec_l05Plain.j0 k kind val true) false := by
  refine Ev.step (fun k => rfl) ?_
  simp only [spec_l05Plain.j0, if_true]; exact Ev.now _
theorem spec_l05Plain_ev (kind : Int) (obj key : ByteArray) (val : Int) (ho : obj.size ≤ 140737488351232) (hk : key.size ≤ 140737488351232) : Ev (fun k => spec_l05Plain.f k kind obj key val) (wordsB kind obj key val) := by
  unfold spec_l05Plain.f wordsB
  simp only [spec_in, spec_l05Keyed_eq, Option.bind_some]
  by_cases c1 : inB kind 1 7 = true
  · simp only [if_pos c1]
    refine Ev.bind (spec_NameOk_ev obj ho) ?_
    show Ev _ (if nm obj = true then _ else _)
    by_cases c2 : nm obj = true
    · have c2' : nameB obj obj.size 0 = true := c2
      simp only [if_pos c2, if_pos c2']
      by_cases c3 : inB kind 2 5 = true
      · simp only [if_pos c3]
        refine Ev.bind (spec_NameOk_ev key hk) ?_
        show Ev _ (if nm key = true then _ else _)
        by_cases c4 : nm key = true
        · have c4' : nameB key key.size 0 = true := c4
          simp only [if_pos c4, if_pos c4']; exact spec_l05Plain_j0 kind val
        · have c4' : ¬ nameB key key.size 0 = true := c4
          simp only [if_neg c4, if_neg c4']; exact spec_l05Plain_no kind val
      · simp only [if_neg c3]
        by_cases c4 : key.toList = []
        · simp only [if_pos c4, c4, bne_self_eq_false]; exact spec_l05Plain_j0 kind val
        · simp only [if_neg c4, bne_iff_ne.2 c4]; exact spec_l05Plain_no kind val
    · have c2' : ¬ nameB obj obj.size 0 = true := c2
      simp only [if_neg c2, if_neg c2']; exact spec_l05Plain_no kind val
  · simp only [if_neg c1]; exact spec_l05Plain_no kind val
theorem spec_ActOk_no (a b c : Int) (l : List Int) (d : Int) (s t : ByteArray) (e f g : Int) : Ev (fun k => spec_ActOk.j0 k true a b c l d s t e f g) false := by
  refine Ev.step (fun k => rfl) ?_
  simp only [spec_ActOk.j0, if_true]; exact Ev.now _
theorem spec_ActOk_j0 (a b c : Int) (l : List Int) (d : Int) (s t : ByteArray) (e f g : Int) (hl : l.length ≤ 140737488351232) : Ev (fun k => spec_ActOk.j0 k false a b c l d s t e f g) (refB d l f g) := by
  refine Ev.step (fun k => rfl) ?_
  simp only [spec_ActOk.j0, Bool.false_eq_true, if_false, refB]
  by_cases c1 : d = 7
  · simp only [if_pos c1]; exact Ev.bind (spec_Knows_ev l f g hl) (Ev.now _)
  · simp only [if_neg c1]
    by_cases c2 : d = 6
    · simp only [if_pos c2]
      by_cases c3 : (f == 0 && (g == 0)) = true
      · simp only [if_pos c3]; exact Ev.now _
      · simp only [if_neg c3]; exact Ev.bind (spec_Knows_ev l f g hl) (Ev.now _)
    · simp only [if_neg c2]; exact Ev.now _
theorem spec_ActOk_ev (a b c : Int) (l : List Int) (d : Int) (s t : ByteArray) (e f g : Int) (hl : l.length ≤ 140737488351232) (hs : s.size ≤ 140737488351232) (ht : t.size ≤ 140737488351232) : Ev (fun k => spec_ActOk.f k a b c l d s t e f g) (actB a b c l d s t e f g) := by
  unfold spec_ActOk.f actB
  simp only [spec_DotOk_eq, spec_in, Option.bind_some]
  by_cases c1 : dotB a b = true
  · have h1 := dotB_true c1
    simp only [if_pos c1]
    refine Ev.bind (spec_KnowOk_ev l hl) ?_
    by_cases c2 : knowB l = true
    · have h2 := know_len c2
      simp only [if_pos c2, if_pos h1.1.1, if_pos (show a < (l.length : Int) by omega), wi (n := b - 1) (by omega)]
      by_cases c3 : rd l a = b - 1
      · simp only [if_pos c3]
        by_cases c4 : inB c 1 10000 = true
        · simp only [if_pos c4]
          refine Ev.bind (spec_l05Plain_ev d s t e hs ht) ?_
          by_cases c5 : wordsB d s t e = true
          · simp only [if_pos c5, c5, Bool.not_true]; exact spec_ActOk_j0 a b c l d s t e f g hl
          · simp only [if_neg c5, Bool.eq_false_iff.2 c5, Bool.not_false]; exact spec_ActOk_no ..
        · simp only [if_neg c4]; exact spec_ActOk_no ..
      · simp only [if_neg c3]; exact spec_ActOk_no ..
    · simp only [if_neg c2]; exact spec_ActOk_no ..
  · simp only [if_neg c1]; exact spec_ActOk_no ..
theorem impl_in (x lo hi : Int) : impl_within.f x lo hi = some (inB x lo hi) := in_ite x lo hi
theorem impl_KnowOk_l0 (l : List Int) (hl : l.length ≤ 140737488351232) : ∀ d i, i + d = l.length → Ev (fun k => impl_KnowOk.l0 k l l (l.length : Int) (i : Int)) (((l.drop i).all fun x => inB x 0 1000) && ((l.length : Int) == 3))
  | 0, i, hi => by
    refine Ev.step (fun k => rfl) ?_
    simp only [impl_KnowOk.l0, if_neg (show ¬ (i : Int) < (l.length : Int) by omega), List.drop_eq_nil_of_le (show l.length ≤ i by omega), List.all_nil, Bool.true_and]
    exact Ev.now _
  | d + 1, i, hi => by
    refine Ev.step (fun k => rfl) ?_
    have ih := impl_KnowOk_l0 l hl d (i + 1) (by omega)
    simp only [impl_KnowOk.l0, if_pos (show (i : Int) < (l.length : Int) by omega), if_pos (show (0 : Int) ≤ (i : Int) by omega), wr i (by omega), impl_in, Option.bind_some, all_drop l i (by omega)]
    cases inB (rd l (i : Int)) 0 1000
    · exact Ev.now _
    · exact ih
theorem impl_KnowOk_ev (l : List Int) (hl : l.length ≤ 140737488351232) : Ev (fun k => impl_KnowOk.f k l) (knowB l) := impl_KnowOk_l0 l hl l.length 0 (by omega)
theorem impl_DotOk_eq (r s : Int) : impl_DotOk.f r s = some (dotB r s) := by
  unfold impl_DotOk.f dotB
  simp only [impl_in, Option.bind_some]
  split <;> rfl
theorem impl_Knows_ev (l : List Int) (r s : Int) (hl : l.length ≤ 140737488351232) : Ev (fun k => impl_Knows.f k l r s) (knowsB l r s) := by
  unfold impl_Knows.f knowsB
  refine Ev.bind (impl_KnowOk_ev l hl) ?_
  by_cases ka : knowB l = true
  · simp only [if_pos ka, impl_DotOk_eq, Option.bind_some]
    by_cases kd : dotB r s = true
    · simp only [if_pos kd]
      have h1 : 0 ≤ r ∧ r ≤ 2 := by
        unfold dotB at kd
        by_cases c : inB r 0 2 = true
        · exact inB_true.1 c
        · simp [c] at kd
      have h2 : (l.length : Int) = 3 := by
        unfold knowB at ka
        simp only [Bool.and_eq_true, beq_iff_eq] at ka
        exact ka.2
      simp only [if_pos h1.1, if_pos (show r < (l.length : Int) by omega)]
      exact Ev.now _
    · simp only [if_neg kd]; exact Ev.now _
  · simp only [if_neg ka]; exact Ev.now _
theorem impl_NameOk_l0 (s : ByteArray) (hs : s.size ≤ 140737488351232) : ∀ d i, i + d = s.size → Ev (fun k => impl_NameOk.l0 k s (i : Int)) (nameB s d i)
  | 0, i, hi => by
    refine Ev.step (fun k => rfl) ?_
    simp only [impl_NameOk.l0, if_neg (show ¬ (i : Int) < (s.size : Int) by omega), impl_in, Option.bind_some]
    exact Ev.now _
  | d + 1, i, hi => by
    refine Ev.step (fun k => rfl) ?_
    have ih := impl_NameOk_l0 s hs d (i + 1) (by omega)
    have hb := bt_range s (i : Int)
    simp only [impl_NameOk.l0, if_pos (show (i : Int) < (s.size : Int) by omega), if_pos (show (0 : Int) ≤ (i : Int) by omega), wr i (by omega), nameB, wi (n := bt s (i : Int)) (by omega), impl_in, Option.bind_some]
    cases inB (bt s (i : Int)) 97 122
    · exact Ev.now _
    · exact ih
theorem impl_NameOk_ev (s : ByteArray) (hs : s.size ≤ 140737488351232) : Ev (fun k => impl_NameOk.f k s) (nameB s s.size 0) := impl_NameOk_l0 s hs s.size 0 (by omega)
theorem impl_hasKey_eq (kind : Int) : impl_hasKey.f kind = some (inB kind 2 5) := by simp [impl_hasKey.f, impl_in]
theorem impl_hasVal_eq (kind : Int) : impl_hasVal.f kind = some (valuedB kind) := by
  unfold impl_hasVal.f valuedB
  split
  · rfl
  · split <;> rfl
theorem impl_val_ev (kind val : Int) : Ev (fun _ => if val = 0 then some true else (if valuedB kind = true then some (inB val 0 999999) else some false)) (valB kind val) := by
  unfold valB
  by_cases c : val = 0
  · simp only [if_pos c]; exact Ev.now _
  · simp only [if_neg c]
    by_cases c2 : valuedB kind = true
    · simp only [if_pos c2]; exact Ev.now _
    · simp only [if_neg c2]; exact Ev.now _
theorem impl_wordsOk_ev (kind : Int) (obj key : ByteArray) (val : Int) (ho : obj.size ≤ 140737488351232) (hk : key.size ≤ 140737488351232) : Ev (fun k => impl_wordsOk.f k kind obj key val) (wordsB kind obj key val) := by
  unfold impl_wordsOk.f wordsB
  simp only [impl_in, Option.bind_some]
  by_cases c1 : inB kind 1 7 = true
  · simp only [if_pos c1]
    refine Ev.bind (impl_NameOk_ev obj ho) ?_
    show Ev _ (if nm obj = true then _ else _)
    refine Ev.step (fun k => rfl) ?_
    by_cases c2 : nm obj = true
    · have c2' : nameB obj obj.size 0 = true := c2
      simp only [impl_wordsOk.j0, c2', Bool.not_true, Bool.false_eq_true, if_false, if_pos c2, impl_hasKey_eq, impl_hasVal_eq, impl_in, Option.bind_some]
      by_cases c4 : key.toList = []
      · have e := nm_empty c4
        simp only [if_pos c4, e, Bool.false_eq_true, if_false]
        by_cases c3 : inB kind 2 5 = true
        · simp only [if_pos c3]
          refine Ev.bind (impl_NameOk_ev key hk) ?_
          have e' : nameB key key.size 0 = false := e
          simp only [e', Bool.false_eq_true, if_false]; exact Ev.now _
        · simp only [if_neg c3]; exact impl_val_ev kind val
      · simp only [if_neg c4]
        refine Ev.bind (impl_NameOk_ev key hk) ?_
        by_cases c5 : nm key = true
        · have c5' : nameB key key.size 0 = true := c5
          simp only [if_pos c5', if_pos c5]
          by_cases c3 : inB kind 2 5 = true
          · simp only [if_pos c3]; exact impl_val_ev kind val
          · simp only [if_neg c3]; exact Ev.now _
        · have c5' : ¬ nameB key key.size 0 = true := c5
          simp only [if_neg c5', if_neg c5, ite_self]; exact Ev.now _
    · have c2' : nameB obj obj.size 0 = false := Bool.eq_false_iff.2 c2
      simp only [impl_wordsOk.j0, c2', Bool.not_false, if_true, if_neg c2]; exact Ev.now _
  · simp only [if_neg c1]
    refine Ev.step (fun k => rfl) ?_
    simp only [impl_wordsOk.j0, if_true]; exact Ev.now _
theorem impl_ActOk_no (a b c : Int) (l : List Int) (d : Int) (s t : ByteArray) (e f g : Int) : Ev (fun k => impl_ActOk.j0 k true a b c l d s t e f g) false := by
  refine Ev.step (fun k => rfl) ?_
  simp only [impl_ActOk.j0, if_true]; exact Ev.now _
theorem impl_ActOk_j0 (a b c : Int) (l : List Int) (d : Int) (s t : ByteArray) (e f g : Int) (hl : l.length ≤ 140737488351232) (hs : s.size ≤ 140737488351232) (ht : t.size ≤ 140737488351232) : Ev (fun k => impl_ActOk.j0 k false a b c l d s t e f g) (if wordsB d s t e = true then refB d l f g else false) := by
  have W := impl_wordsOk_ev d s t e hs ht
  have K := impl_Knows_ev l f g hl
  refine Ev.step (fun k => rfl) ?_
  simp only [impl_ActOk.j0, Bool.false_eq_true, if_false, refB]
  by_cases c1 : d = 7
  · simp only [if_pos c1]
    refine Ev.bind K ?_
    cases knowsB l f g
    · simp only [Bool.false_eq_true, if_false, ite_self]; exact Ev.now _
    · simp only [if_true]
      refine Ev.bind W ?_
      cases wordsB d s t e <;> exact Ev.now _
  · simp only [if_neg c1]
    by_cases c2 : d = 6
    · simp only [if_pos c2]
      cases (f == 0 && (g == 0))
      · simp only [Bool.false_eq_true, if_false]
        refine Ev.bind K ?_
        cases knowsB l f g
        · simp only [Bool.false_eq_true, if_false, ite_self]; exact Ev.now _
        · simp only [if_true]
          refine Ev.bind W ?_
          cases wordsB d s t e <;> exact Ev.now _
      · simp only [if_true]
        refine Ev.bind W ?_
        cases wordsB d s t e <;> exact Ev.now _
    · simp only [if_neg c2]
      cases (f == 0 && (g == 0))
      · simp only [Bool.false_eq_true, if_false, ite_self]; exact Ev.now _
      · simp only [if_true]
        refine Ev.bind W ?_
        cases wordsB d s t e <;> exact Ev.now _
theorem impl_ActOk_ev (a b c : Int) (l : List Int) (d : Int) (s t : ByteArray) (e f g : Int) (hl : l.length ≤ 140737488351232) (hs : s.size ≤ 140737488351232) (ht : t.size ≤ 140737488351232) : Ev (fun k => impl_ActOk.f k a b c l d s t e f g) (actB a b c l d s t e f g) := by
  unfold impl_ActOk.f actB
  simp only [impl_DotOk_eq, impl_in, Option.bind_some]
  by_cases c1 : dotB a b = true
  · have h1 := dotB_true c1
    simp only [if_pos c1]
    refine Ev.bind (impl_KnowOk_ev l hl) ?_
    by_cases c2 : knowB l = true
    · have h2 := know_len c2
      simp only [if_pos c2, if_pos h1.1.1, if_pos (show a < (l.length : Int) by omega), wi (n := b - 1) (by omega)]
      by_cases c3 : rd l a = b - 1
      · simp only [if_pos c3]
        by_cases c4 : inB c 1 10000 = true
        · simp only [if_pos c4, c4, Bool.not_true]; exact impl_ActOk_j0 a b c l d s t e f g hl hs ht
        · simp only [if_neg c4, Bool.eq_false_iff.2 c4, Bool.not_false]; exact impl_ActOk_no ..
      · simp only [if_neg c3]; exact impl_ActOk_no ..
    · simp only [if_neg c2]; exact impl_ActOk_no ..
  · simp only [if_neg c1]; exact impl_ActOk_no ..
theorem FnExactActOk : laws_FnExactActOk.Pure := by
  intro a b c l d s t e f g _ _ _ hl _ hs ht _ _ _
  refine Ev.rounds ?_
  unfold laws_FnExactActOk.f
  obtain ⟨r, hr, hc⟩ := szAct_ex a b c l d s t e f g hl.1 hs ht 1048576 (by omega)
  simp only [hr, Option.bind_some]
  by_cases c1 : r < 0
  · simp only [if_pos c1]; exact Ev.now _
  simp only [if_neg c1]
  have t1 := toAct_ev a b c l d s t e f g (by omega)
  refine Ev.bind t1 (Ev.bind (spec_ActOk_ev a b c l d s t e f g (by omega) (by omega) (by omega)) (Ev.bind t1 (Ev.bind (impl_ActOk_ev a b c l d s t e f g (by omega) (by omega) (by omega)) ?_)))
  simp only [bne_self_eq_false, Bool.false_eq_true, if_false]
  refine Ev.bind t1 (Ev.bind (eqAct_ev a b c l d s t e f g (by omega)) ?_)
  simp only [if_true]
  exact Ev.now _
end Go.Proofs.Ytmohbiagcbfkpaa.Pure
