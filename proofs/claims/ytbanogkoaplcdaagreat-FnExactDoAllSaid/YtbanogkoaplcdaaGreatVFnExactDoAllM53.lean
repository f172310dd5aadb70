/- Parts of the proof of FnExactDoAll, one behind the other. No condition. -/
import Derived.Test.YtbanogkoaplcdaaGreatVFnExactDoAllM52
namespace Go.Proofs.YtbanogkoaplcdaaGreat.Pure
open Go.RowKit Go.Proofs.YtbanogkoaplcdaaGreat.QDa Go.Proofs.YtbanogkoaplcdaaGreat.Plain Go.Proofs.YtbanogkoaplcdaaGreatW.PrintWords Go.Proofs.YtbanogkoaplcdaaGreatW.PrintLast Go.Proofs.YtbanogkoaplcdaaGreatW.PrintMore
set_option linter.unusedSimpArgs false
set_option linter.unusedVariables false
def allB (p : Nat → Bool) : Nat → Nat → Bool
  | 0, _ => true
  | d + 1, i => if p i = true then allB p d (i + 1) else false
theorem allB_true {p : Nat → Bool} : ∀ {d i : Nat}, allB p d i = true ↔ ∀ j, i ≤ j → j < i + d → p j = true
  | 0, i => by simp [allB]; intro j h1 h2; omega
  | d + 1, i => by
    unfold allB
    by_cases c : p i = true
    · rw [if_pos c, allB_true]
      constructor
      · intro h j h1 h2
        by_cases e : j = i
        · subst e; exact c
        · exact h j (by omega) (by omega)
      · intro h j h1 h2; exact h j (by omega) (by omega)
    · rw [if_neg c]
      constructor
      · intro h; cases h
      · intro h; exact absurd (h i (Nat.le_refl _) (by omega)) c
theorem wm (i : Nat) (h : 0 < i) (h2 : i < 4611686018427387904) : wrap64 ((i : Int) - 1) = ((i - 1 : Nat) : Int) := by unfold wrap64; omega
theorem less_total {a b : List UInt8} (h1 : Op.bytesLess a b = false) (h2 : Op.bytesLess b a = false) : a = b := by
  have := Short.less_flip a b
  rw [h1, h2] at this
  simpa using this
theorem less_self (a : List UInt8) : Op.bytesLess a a = false := by
  have := Short.less_flip a a
  cases h : Op.bytesLess a a
  · rfl
  · rw [h] at this; simp at this
theorem less_asymm {a b : List UInt8} (h : Op.bytesLess a b = true) : Op.bytesLess b a = false := by
  have := Short.less_flip a b
  rw [h] at this
  simpa using this.symm
def beforeB (a b c d : Int) : Bool := if a < c then true else if a = c then decide (b < d) else false
theorem beforeB_true {a b c d : Int} : beforeB a b c d = true ↔ a < c ∨ a = c ∧ b < d := by
  unfold beforeB
  by_cases h : a < c
  · simp [h]
  · by_cases h2 : a = c
    · simp [h2]
    · simp [h, h2]
def ordT (a : List UInt8) (r : Int) (b : List UInt8) (s : Int) : Bool := if Op.bytesLess a b = true then true else if a = b then decide (r < s) else false
def insBy {α : Type} (p : α → Bool) (x : α) : List α → List α
  | [] => [x]
  | y :: l => if p y = true then x :: y :: l else y :: insBy p x l
theorem insBy_len {α : Type} (p : α → Bool) (x : α) : ∀ l, (insBy p x l).length = l.length + 1
  | [] => rfl
  | y :: l => by
    unfold insBy
    split
    · simp
    · simp [insBy_len p x l]
theorem insBy_congr {α : Type} {p q : α → Bool} {x : α} : ∀ {l : List α}, (∀ y ∈ l, p y = q y) → insBy p x l = insBy q x l
  | [], _ => rfl
  | y :: l, h => by
    unfold insBy
    rw [h y List.mem_cons_self, insBy_congr (fun y' hy => h y' (List.mem_cons_of_mem _ hy))]
theorem take_getD {α : Type} (l : List α) (i : Nat) (z : α) (h : i < l.length) : l.take (i + 1) = l.take i ++ [l.getD i z] := by
  rw [List.take_add_one, List.getElem?_eq_getElem h, List.getD_eq_getElem?_getD, List.getElem?_eq_getElem h]; rfl
theorem rdI_Live (l : List S93) (i : Nat) : rd_T93 l (i : Int) = l.getD i z93 := by unfold rd_T93; rw [Int.toNat_natCast]
theorem rdI_Tally (l : List S90) (i : Nat) : rd_T90 l (i : Int) = l.getD i z90 := by unfold rd_T90; rw [Int.toNat_natCast]
def nameB (s : ByteArray) : Nat → Nat → Bool
  | 0, _ => inB (s.size : Int) 1 8
  | d + 1, i => if inB (bt s (i : Int)) 97 122 = true then nameB s d (i + 1) else false
theorem spec_in (x lo hi : Int) : spec_l01In.f x lo hi = some (inB x lo hi) := in_ite x lo hi
theorem spec_NameOk_l0 (s : ByteArray) (hs : s.size ≤ 140737488351232) : ∀ d i, i + d = s.size → Ev (fun k => spec_NameOk.l0 k s (i : Int)) (nameB s d i)
  | 0, i, hi => by
    refine Ev.step (fun k => rfl) ?_
    simp only [spec_NameOk.l0, if_neg (show ¬ (i : Int) < (s.size : Int) by omega), spec_in, Option.bind_some]
    exact Ev.now _
  | d + 1, i, hi => by
    refine Ev.step (fun k => rfl) ?_
    have ih := spec_NameOk_l0 s hs d (i + 1) (by omega)
    have hb := bt_range s (i : Int)
    simp only [spec_NameOk.l0, if_pos (show (i : Int) < (s.size : Int) by omega), if_pos (show (0 : Int) ≤ (i : Int) by omega), wr i (by omega), nameB]
    by_cases h1 : bt s (i : Int) < 97
    · simp only [if_pos h1, inB_false.2 (show ¬ (97 ≤ bt s (i : Int) ∧ bt s (i : Int) ≤ 122) by omega)]
      exact Ev.now _
    · by_cases h2 : bt s (i : Int) > 122
      · simp only [if_neg h1, if_pos h2, inB_false.2 (show ¬ (97 ≤ bt s (i : Int) ∧ bt s (i : Int) ≤ 122) by omega)]
        exact Ev.now _
      · simp only [if_neg h1, if_neg h2, inB_true.2 (show 97 ≤ bt s (i : Int) ∧ bt s (i : Int) ≤ 122 by omega), if_true]
        exact ih
theorem spec_NameOk_ev (s : ByteArray) (hs : s.size ≤ 140737488351232) : Ev (fun k => spec_NameOk.f k s) (nameB s s.size 0) := spec_NameOk_l0 s hs s.size 0 (by omega)
def tallyP (l : List S90) (i : Nat) : Bool :=
  if nameB (l.getD i z90).f0 (l.getD i z90).f0.size 0 = true then (if inB (l.getD i z90).f1 0 2 = true then (if inB (l.getD i z90).f2 0 999999 = true then
    (if 0 < i then ordT (l.getD (i - 1) z90).f0.toList (l.getD (i - 1) z90).f1 (l.getD i z90).f0.toList (l.getD i z90).f1 else true) else false) else false) else false
def tallyAll (l : List S90) : Bool := if allB (tallyP l) l.length 0 = true then decide ((l.length : Int) ≤ 120) else false
theorem mem_getD {α : Type} {l : List α} {z : α} {P : α → Prop} (h : ∀ x ∈ l, P x) {i : Nat} (hi : i < l.length) : P (l.getD i z) := by
  rw [getD_get l i z hi]; exact h _ (List.getElem_mem _)
theorem spec_Tallies_no (l : List S90) (x : Int) (a : ByteArray) (b c : Int) : Ev (fun k => spec_l06Tallies.j1 k l x true a b c) false := by
  refine Ev.step (fun k => rfl) ?_
  simp only [spec_l06Tallies.j1, if_true]; exact Ev.now _
theorem spec_Tallies_l0 (l : List S90) (hl : l.length ≤ 140737488351232) (hs : ∀ x ∈ l, x.f0.size ≤ 140737488351232) : ∀ d i, i + d = l.length → Ev (fun k => spec_l06Tallies.l0 k l (i : Int)) (if allB (tallyP l) d i = true then decide ((l.length : Int) ≤ 120) else false)
  | 0, i, hi => by
    refine Ev.step (fun k => rfl) ?_
    simp only [spec_l06Tallies.l0, if_neg (show ¬ (i : Int) < (l.length : Int) by omega), allB, if_true]
    exact Ev.now _
  | d + 1, i, hi => by
    refine Ev.step (fun k => rfl) ?_
    have ih := spec_Tallies_l0 l hl hs d (i + 1) (by omega)
    have hn := spec_NameOk_ev (l.getD i z90).f0 (mem_getD hs (by omega))
    simp only [spec_l06Tallies.l0, if_pos (show (i : Int) < (l.length : Int) by omega), if_pos (show (0 : Int) ≤ (i : Int) by omega), rdI_Tally, spec_in, Option.bind_some, allB]
    refine Ev.bind hn ?_
    unfold tallyP
    by_cases c1 : nameB (l.getD i z90).f0 (l.getD i z90).f0.size 0 = true
    · simp only [if_pos c1]
      by_cases c2 : inB (l.getD i z90).f1 0 2 = true
      · simp only [if_pos c2]
        by_cases c3 : inB (l.getD i z90).f2 0 999999 = true
        · simp only [if_pos c3, c3, Bool.not_true]
          refine Ev.step (fun k => rfl) ?_
          simp only [spec_l06Tallies.j1, Bool.false_eq_true, if_false]
          by_cases c4 : 0 < i
          · simp only [if_pos (show (i : Int) > 0 by omega), if_pos c4, wm i c4 (by omega), if_pos (show (0 : Int) ≤ ((i - 1 : Nat) : Int) by omega), if_pos (show ((i - 1 : Nat) : Int) < (l.length : Int) by omega), rdI_Tally, wr i (by omega)]
            unfold ordT
            by_cases c5 : Op.bytesLess (l.getD i z90).f0.toList (l.getD (i - 1) z90).f0.toList = true
            · have h6 := less_asymm c5
              have h7 : ¬ (l.getD (i - 1) z90).f0.toList = (l.getD i z90).f0.toList := fun e => by rw [e, less_self] at c5; cases c5
              simp only [if_pos c5, h6, Bool.false_eq_true, if_false, if_neg h7]; exact Ev.now _
            · simp only [if_neg c5]
              by_cases c6 : (l.getD (i - 1) z90).f0.toList = (l.getD i z90).f0.toList
              · have h6 : Op.bytesLess (l.getD (i - 1) z90).f0.toList (l.getD i z90).f0.toList = false := by rw [c6]; exact less_self _
                simp only [if_pos c6, h6, Bool.false_eq_true, if_false]
                by_cases c7 : (l.getD (i - 1) z90).f1 ≥ (l.getD i z90).f1
                · simp only [if_pos c7, decide_eq_false (show ¬ (l.getD (i - 1) z90).f1 < (l.getD i z90).f1 by omega), Bool.false_eq_true, if_false]; exact Ev.now _
                · simp only [if_neg c7, decide_eq_true (show (l.getD (i - 1) z90).f1 < (l.getD i z90).f1 by omega), if_true]; exact ih
              · have h6 : Op.bytesLess (l.getD (i - 1) z90).f0.toList (l.getD i z90).f0.toList = true := by
                  cases h : Op.bytesLess (l.getD (i - 1) z90).f0.toList (l.getD i z90).f0.toList
                  · exact absurd (less_total h (Bool.eq_false_iff.2 c5)) c6
                  · rfl
                simp only [if_neg c6, h6, if_true]; exact ih
          · simp only [if_neg (show ¬ (i : Int) > 0 by omega), if_neg c4, if_true, wr i (by omega)]; exact ih
        · simp only [if_neg c3, Bool.eq_false_iff.2 c3, Bool.not_false, Bool.false_eq_true, if_false]; exact spec_Tallies_no ..
      · simp only [if_neg c2, Bool.false_eq_true, if_false]; exact spec_Tallies_no ..
    · simp only [if_neg c1, Bool.false_eq_true, if_false]; exact spec_Tallies_no ..
theorem spec_Tallies_ev (l : List S90) (hl : l.length ≤ 140737488351232) (hs : ∀ x ∈ l, x.f0.size ≤ 140737488351232) : Ev (fun k => spec_l06Tallies.f k l) (tallyAll l) := spec_Tallies_l0 l hl hs l.length 0 (by omega)
theorem rdI_Cell (l : List S96) (i : Nat) : rd_T96 l (i : Int) = l.getD i z96 := by unfold rd_T96; rw [Int.toNat_natCast]
def knowB (l : List Int) : Bool := (l.all fun x => inB x 0 1000) && ((l.length : Int) == 3)
theorem all_drop (l : List Int) (i : Nat) (h : i < l.length) : ((l.drop i).all fun x => inB x 0 1000) = (inB (rd l (i : Int)) 0 1000 && (l.drop (i + 1)).all fun x => inB x 0 1000) := by
  rw [drop_rd l i h]; rfl
def dotB (r s : Int) : Bool := if inB r 0 2 = true then inB s 1 1000 else false
def knowsB (l : List Int) (r s : Int) : Bool := if knowB l = true then (if dotB r s = true then decide (s ≤ rd l r) else false) else false
def ordL (l : List S93) (i : Nat) : Bool := if 0 < i then beforeB (l.getD (i - 1) z93).f4.f0 (l.getD (i - 1) z93).f4.f1 (l.getD i z93).f4.f0 (l.getD i z93).f4.f1 else true
def ordC (l : List S96) (i : Nat) : Bool := if 0 < i then beforeB (l.getD (i - 1) z96).f1.f0 (l.getD (i - 1) z96).f1.f1 (l.getD i z96).f1.f0 (l.getD i z96).f1.f1 else true
def liveP (q : Int → Int → Bool) (l : List S93) (i : Nat) : Bool :=
  if q (l.getD i z93).f4.f0 (l.getD i z93).f4.f1 = true then (if nameB (l.getD i z93).f1 (l.getD i z93).f1.size 0 = true then (if nameB (l.getD i z93).f2 (l.getD i z93).f2.size 0 = true then (if inB (l.getD i z93).f3 0 999999 = true then
    (if (l.getD i z93).f0 = true then ordL l i else if (l.getD i z93).f3 = 0 then ordL l i else false) else false) else false) else false) else false
def liveAll (q : Int → Int → Bool) (l : List S93) : Bool := if allB (liveP q l) l.length 0 = true then decide ((l.length : Int) ≤ 120) else false
def cellP (q p : Int → Int → Bool) (l : List S96) (i : Nat) : Bool :=
  if q (l.getD i z96).f1.f0 (l.getD i z96).f1.f1 = true then (if nameB (l.getD i z96).f0 (l.getD i z96).f0.size 0 = true then (if inB (l.getD i z96).f2 1 10000 = true then (if inB (l.getD i z96).f4 0 999999 = true then
    (if p (l.getD i z96).f3.f0 (l.getD i z96).f3.f1 = true then ordC l i else false) else false) else false) else false) else false
def cellAll (q p : Int → Int → Bool) (l : List S96) : Bool := if allB (cellP q p l) l.length 0 = true then decide ((l.length : Int) ≤ 120) else false
theorem spec_DotOk_eq (r s : Int) : spec_DotOk.f r s = some (dotB r s) := by
  unfold spec_DotOk.f dotB
  simp only [spec_in, Option.bind_some]
  split <;> rfl
theorem spec_before_eq (a b c d : Int) : spec_l06Before.f a b c d = some (beforeB a b c d) := by
  unfold spec_l06Before.f beforeB
  split
  · rfl
  · split <;> rfl
theorem spec_Lives_l0 (l : List S93) (hl : l.length ≤ 140737488351232) (hs : ∀ x ∈ l, x.f1.size ≤ 140737488351232 ∧ x.f2.size ≤ 140737488351232) : ∀ d i, i + d = l.length → Ev (fun k => spec_l06Lives.l0 k l (i : Int)) (if allB (liveP dotB l) d i = true then decide ((l.length : Int) ≤ 120) else false)
  | 0, i, hi => by
    refine Ev.step (fun k => rfl) ?_
    simp only [spec_l06Lives.l0, if_neg (show ¬ (i : Int) < (l.length : Int) by omega), allB, if_true]
    exact Ev.now _
  | d + 1, i, hi => by
    refine Ev.step (fun k => rfl) ?_
    have ih := spec_Lives_l0 l hl hs d (i + 1) (by omega)
    have hx := mem_getD (z := z93) hs (show i < l.length by omega)
    have hn := spec_NameOk_ev (l.getD i z93).f1 hx.1
    have hn2 := spec_NameOk_ev (l.getD i z93).f2 hx.2
    simp only [spec_l06Lives.l0, if_pos (show (i : Int) < (l.length : Int) by omega), if_pos (show (0 : Int) ≤ (i : Int) by omega), rdI_Live, spec_DotOk_eq, spec_in, Option.bind_some, spec_before_eq, allB, wr i (by omega)]
    unfold liveP
    have go : Ev (fun k => if (i : Int) > 0 then (if 0 ≤ wrap64 ((i : Int) - 1) then (if wrap64 ((i : Int) - 1) < (l.length : Int) then (if beforeB (rd_T93 l (wrap64 ((i : Int) - 1))).f4.f0 (rd_T93 l (wrap64 ((i : Int) - 1))).f4.f1 (l.getD i z93).f4.f0 (l.getD i z93).f4.f1 = true then spec_l06Lives.l0 k l ((i + 1 : Nat) : Int) else some false) else none) else none) else spec_l06Lives.l0 k l ((i + 1 : Nat) : Int))
        (if (if ordL l i = true then allB (liveP dotB l) d (i + 1) else false) = true then decide ((l.length : Int) ≤ 120) else false) := by
      unfold ordL
      by_cases c4 : 0 < i
      · simp only [if_pos (show (i : Int) > 0 by omega), if_pos c4, wm i c4 (by omega), if_pos (show (0 : Int) ≤ ((i - 1 : Nat) : Int) by omega), if_pos (show ((i - 1 : Nat) : Int) < (l.length : Int) by omega), rdI_Live]
        by_cases c5 : beforeB (l.getD (i - 1) z93).f4.f0 (l.getD (i - 1) z93).f4.f1 (l.getD i z93).f4.f0 (l.getD i z93).f4.f1 = true
        · simp only [if_pos c5]; exact ih
        · simp only [if_neg c5, Bool.false_eq_true, if_false]; exact Ev.now _
      · simp only [if_neg (show ¬ (i : Int) > 0 by omega), if_neg c4, if_true]; exact ih
    by_cases c1 : dotB (l.getD i z93).f4.f0 (l.getD i z93).f4.f1 = true
    · simp only [if_pos c1]
      refine Ev.bind hn ?_
      by_cases c2 : nameB (l.getD i z93).f1 (l.getD i z93).f1.size 0 = true
      · simp only [if_pos c2]
        refine Ev.bind hn2 ?_
        by_cases c3 : nameB (l.getD i z93).f2 (l.getD i z93).f2.size 0 = true
        · simp only [if_pos c3]
          by_cases c6 : inB (l.getD i z93).f3 0 999999 = true
          · simp only [if_pos c6]
            by_cases c7 : (l.getD i z93).f0 = true
            · simp only [if_pos c7]; exact go
            · simp only [if_neg c7]
              by_cases c8 : (l.getD i z93).f3 = 0
              · simp only [if_pos c8]; exact go
              · simp only [if_neg c8, Bool.false_eq_true, if_false]; exact Ev.now _
          · simp only [if_neg c6, Bool.false_eq_true, if_false]; exact Ev.now _
        · simp only [if_neg c3, Bool.false_eq_true, if_false]; exact Ev.now _
      · simp only [if_neg c2, Bool.false_eq_true, if_false]; exact Ev.now _
    · simp only [if_neg c1, Bool.false_eq_true, if_false]; exact Ev.now _
theorem spec_Lives_ev (l : List S93) (hl : l.length ≤ 140737488351232) (hs : ∀ x ∈ l, x.f1.size ≤ 140737488351232 ∧ x.f2.size ≤ 140737488351232) : Ev (fun k => spec_l06Lives.f k l) (liveAll dotB l) := spec_Lives_l0 l hl hs l.length 0 (by omega)
theorem cmp_int_eq (a b : Int) : cmp_Compare_int.f a b = some (if a < b then -1 else if a > b then 1 else 0) := by
  simp only [cmp_Compare_int.f, cmp_isNaN_int.f, Option.bind_some, bne_self_eq_false, Bool.false_eq_true, if_false]
  split
  · rfl
  · split <;> rfl
theorem cmp_string_eq (a b : ByteArray) : cmp_Compare_string.f a b = some (if Op.bytesLess a.toList b.toList = true then -1 else if Op.bytesLess b.toList a.toList = true then 1 else 0) := by
  simp only [cmp_Compare_string.f, cmp_isNaN_string.f, Option.bind_some, bne_self_eq_false, Bool.false_eq_true, if_false]
  split
  · rfl
  · split <;> rfl
theorem cmp_Or_ev (a b : Int) : Ev (fun k => cmp_Or_int.f k ([a, b] : List Int)) (if a = 0 then b else a) := by
  unfold cmp_Or_int.f
  refine Ev.step (fun k => rfl) ?_
  simp only [cmp_Or_int.l0, List.length_cons, List.length_nil, if_pos (show (0 : Int) < ((0 + 1 + 1 : Nat) : Int) by omega), if_pos (show (0 : Int) ≤ 0 by omega), show rd [a, b] 0 = a from rfl]
  by_cases c : a = 0
  · simp only [if_pos c, show wrap64 (0 + 1) = 1 by unfold wrap64; omega]
    refine Ev.step (fun k => rfl) ?_
    simp only [cmp_Or_int.l0, List.length_cons, List.length_nil, if_pos (show (1 : Int) < ((0 + 1 + 1 : Nat) : Int) by omega), if_pos (show (0 : Int) ≤ 1 by omega), show rd [a, b] 1 = b from rfl]
    by_cases d : b = 0
    · simp only [if_pos d, show wrap64 (1 + 1) = 2 by unfold wrap64; omega]
      refine Ev.step (fun k => rfl) ?_
      simp only [cmp_Or_int.l0, List.length_cons, List.length_nil, if_neg (show ¬ (2 : Int) < ((0 + 1 + 1 : Nat) : Int) by omega), d]
      exact Ev.now _
    · simp only [if_neg d]; exact Ev.now _
  · simp only [if_neg c]; exact Ev.now _
theorem impl_cmpDots_ev (a b c d : Int) : ∃ r, Ev (fun k => impl_compareDots.f k a b c d) r ∧ (r < 0 ↔ beforeB a b c d = true) := by
  refine ⟨_, by simp only [impl_compareDots.f, cmp_int_eq, Option.bind_some]; exact Ev.bind (cmp_Or_ev _ _) (Ev.now _), ?_⟩
  rw [beforeB_true]
  by_cases h : a < c
  · simp [h]
  · by_cases h2 : a > c
    · simp [h, h2]; omega
    · have h3 : a = c := by omega
      subst h3
      simp only [Int.lt_irrefl, if_false, gt_iff_lt, if_true]
      by_cases h4 : b < d
      · simp [h4]
      · by_cases h5 : d < b
        · simp [h4, h5]
        · simp [h4, h5]
theorem impl_cmpTallies_ev (s : ByteArray) (a b : Int) (t : ByteArray) (c d : Int) : ∃ r, Ev (fun k => impl_compareTallies.f k s a b t c d) r ∧ (r < 0 ↔ ordT s.toList a t.toList c = true) := by
  refine ⟨_, by simp only [impl_compareTallies.f, cmp_int_eq, cmp_string_eq, Option.bind_some]; exact Ev.bind (cmp_Or_ev _ _) (Ev.now _), ?_⟩
  unfold ordT
  cases h : Op.bytesLess s.toList t.toList
  · cases h2 : Op.bytesLess t.toList s.toList
    · have h3 := less_total h h2
      simp only [Bool.false_eq_true, if_false, if_pos h3, if_true]
      by_cases h4 : a < c
      · simp [h4]
      · by_cases h5 : a > c
        · simp [h4, h5]
        · simp [h4, h5]
    · have h3 : ¬ s.toList = t.toList := fun e => by rw [e, less_self] at h2; cases h2
      simp [h3]
  · simp
def befL (r s : Int) (y : S93) : Bool := beforeB r s y.f4.f0 y.f4.f1
def notL (r s : Int) (y : S93) : Bool := !beforeB y.f4.f0 y.f4.f1 r s
theorem spec_l07Live_l0 (l : List S93) (hl : l.length ≤ 1000000) (m : Bool) (o q : ByteArray) (v r s : Int) : ∀ (d i : Nat) (out : List S93) (put : Bool), i + d = l.length → out.length ≤ 2 * i + 2 → Ev (fun k => spec_l07Live.l0 k l out put (i : Int) m o q v r s) (out ++ if put = true then l.drop i else insBy (befL r s) ⟨m, o, q, v, ⟨r, s⟩⟩ (l.drop i))
  | 0, i, out, put, hi, ho => by
    refine Ev.step (fun k => rfl) ?_
    simp only [spec_l07Live.l0, if_neg (show ¬ (i : Int) < (l.length : Int) by omega), List.drop_eq_nil_of_le (show l.length ≤ i by omega), if_pos (show out.length < 2199023255552 by omega), insBy]
    cases put
    · simp only [Bool.false_eq_true, if_false]; exact Ev.now _
    · simp only [if_true, List.append_nil]; exact Ev.now _
  | d + 1, i, out, put, hi, ho => by
    refine Ev.step (fun k => rfl) ?_
    have n1 := spec_l07Live_l0 l hl m o q v r s d (i + 1) (out ++ [l.getD i z93]) put (by omega) (by rw [List.length_append, List.length_singleton]; omega)
    have n2 := spec_l07Live_l0 l hl m o q v r s d (i + 1) ((out ++ [⟨m, o, q, v, ⟨r, s⟩⟩]) ++ [l.getD i z93]) true (by omega)
    simp only [spec_l07Live.l0, if_pos (show (i : Int) < (l.length : Int) by omega), if_pos (show (0 : Int) ≤ (i : Int) by omega), wr i (by omega), rdI_Live, drop_getD l i z93 (by omega), if_pos (show out.length < 2199023255552 by omega), spec_before_eq, Option.bind_some, insBy]
    cases put
    · simp only [Bool.false_eq_true, if_false]
      by_cases c : befL r s (l.getD i z93) = true
      · have c' : beforeB r s (l.getD i z93).f4.f0 (l.getD i z93).f4.f1 = true := c
        have n2 := n2 (by rw [List.length_append, List.length_append, List.length_singleton, List.length_singleton]; omega)
        simp only [if_true, List.append_assoc, List.cons_append, List.nil_append] at n2
        simp only [if_pos c', if_pos c, List.append_assoc, List.cons_append, List.nil_append, if_pos (show (out ++ [(⟨m, o, q, v, ⟨r, s⟩⟩ : S93)]).length < 2199023255552 by rw [List.length_append, List.length_singleton]; omega)]
        exact n2
      · have c' : ¬ beforeB r s (l.getD i z93).f4.f0 (l.getD i z93).f4.f1 = true := c
        simp only [Bool.false_eq_true, if_false, List.append_assoc, List.cons_append, List.nil_append] at n1
        simp only [if_neg c', if_neg c]
        exact n1
    · simp only [if_true]
      simp only [if_true, List.append_assoc, List.singleton_append] at n1
      exact n1
theorem spec_l07Live_ev (l : List S93) (hl : l.length ≤ 1000000) (m : Bool) (o q : ByteArray) (v r s : Int) : Ev (fun k => spec_l07Live.f k l m o q v r s) (insBy (befL r s) ⟨m, o, q, v, ⟨r, s⟩⟩ l) := spec_l07Live_l0 l hl m o q v r s l.length 0 [] false (by omega) (by simp)
theorem impl_withLive_l0 (l : List S93) (hl : l.length ≤ 1000000) (m : Bool) (o q : ByteArray) (v r s : Int) : ∀ (d i : Nat), i + d = l.length → Ev (fun k => impl_withLive.l0 k l (i : Int) m o q v r s) (l.take i ++ insBy (notL r s) ⟨m, o, q, v, ⟨r, s⟩⟩ (l.drop i))
  | 0, i, hi => by
    refine Ev.step (fun k => rfl) ?_
    have h1 : (l.take i).length ≤ 1000000 := by rw [List.length_take]; omega
    have h2 : (l.drop i).length ≤ 1000000 := by rw [List.length_drop]; omega
    have e : l.drop i = [] := List.drop_eq_nil_of_le (by omega)
    simp only [impl_withLive.l0, if_neg (show ¬ (i : Int) < (l.length : Int) by omega), Option.bind_some, if_pos (show (0 : Int) ≤ (i : Int) by omega), if_pos (show (i : Int) ≤ (l.length : Int) by omega), Int.toNat_natCast, List.nil_append, List.length_nil, Nat.zero_add, if_pos (show (l.take i).length < 2199023255552 by omega), List.length_append, List.length_singleton, if_pos (show (l.take i).length + 1 < 2199023255552 by omega), if_pos (show (l.take i).length + 1 + (l.drop i).length < 2199023255552 by omega), e, insBy, List.append_nil]
    exact Ev.now _
  | d + 1, i, hi => by
    refine Ev.step (fun k => rfl) ?_
    have h1 : (l.take i).length ≤ 1000000 := by rw [List.length_take]; omega
    have h2 : (l.drop i).length ≤ 1000000 := by rw [List.length_drop]; omega
    have ih := impl_withLive_l0 l hl m o q v r s d (i + 1) (by omega)
    obtain ⟨t, ht, hlt⟩ := impl_cmpDots_ev (l.getD i z93).f4.f0 (l.getD i z93).f4.f1 r s
    simp only [impl_withLive.l0, if_pos (show (i : Int) < (l.length : Int) by omega), if_pos (show (0 : Int) ≤ (i : Int) by omega), rdI_Live]
    refine Ev.bind ht ?_
    by_cases c : t < 0
    · have hb := hlt.1 c
      simp only [if_pos c, wr i (by omega)]
      rw [drop_getD l i z93 (by omega)]
      unfold insBy
      rw [if_neg (show ¬ notL r s (l.getD i z93) = true by unfold notL; rw [hb]; simp), ← List.singleton_append, ← List.append_assoc, ← take_getD l i z93 (by omega)]
      exact ih
    · have hb : ¬ beforeB (l.getD i z93).f4.f0 (l.getD i z93).f4.f1 r s = true := fun h => c (hlt.2 h)
      have e : insBy (notL r s) ⟨m, o, q, v, ⟨r, s⟩⟩ (l.drop i) = [⟨m, o, q, v, ⟨r, s⟩⟩] ++ l.drop i := by
        rw [drop_getD l i z93 (by omega)]
        unfold insBy
        rw [if_pos (show notL r s (l.getD i z93) = true by unfold notL; rw [Bool.not_eq_true] at hb; rw [hb]; rfl)]
        rfl
      rw [e]
      simp only [if_neg c, Option.bind_some, if_pos (show (i : Int) ≤ (l.length : Int) by omega), Int.toNat_natCast, List.nil_append, List.length_nil, Nat.zero_add, if_pos (show (l.take i).length < 2199023255552 by omega), List.length_append, List.length_singleton, if_pos (show (l.take i).length + 1 < 2199023255552 by omega), if_pos (show (l.take i).length + 1 + (l.drop i).length < 2199023255552 by omega), List.append_assoc]
      exact Ev.now _
theorem impl_withLive_ev (l : List S93) (hl : l.length ≤ 1000000) (m : Bool) (o q : ByteArray) (v r s : Int) : Ev (fun k => impl_withLive.f k l m o q v r s) (insBy (notL r s) ⟨m, o, q, v, ⟨r, s⟩⟩ l) := impl_withLive_l0 l hl m o q v r s l.length 0 (by omega)
def befC (r s : Int) (y : S96) : Bool := beforeB r s y.f1.f0 y.f1.f1
def notC (r s : Int) (y : S96) : Bool := !beforeB y.f1.f0 y.f1.f1 r s
theorem spec_l07Cell_l0 (l : List S96) (hl : l.length ≤ 1000000) (o : ByteArray) (r s tm re rf v : Int) (gn : Bool) : ∀ (d i : Nat) (out : List S96) (put : Bool), i + d = l.length → out.length ≤ 2 * i + 2 → Ev (fun k => spec_l07Cell.l0 k l out put (i : Int) o r s tm re rf v gn) (out ++ if put = true then l.drop i else insBy (befC r s) ⟨o, ⟨r, s⟩, tm, ⟨re, rf⟩, v, gn⟩ (l.drop i))
  | 0, i, out, put, hi, ho => by
    refine Ev.step (fun k => rfl) ?_
    simp only [spec_l07Cell.l0, if_neg (show ¬ (i : Int) < (l.length : Int) by omega), List.drop_eq_nil_of_le (show l.length ≤ i by omega), if_pos (show out.length < 1954687338268 by omega), insBy]
    cases put
    · simp only [Bool.false_eq_true, if_false]; exact Ev.now _
    · simp only [if_true, List.append_nil]; exact Ev.now _
  | d + 1, i, out, put, hi, ho => by
    refine Ev.step (fun k => rfl) ?_
    have n1 := spec_l07Cell_l0 l hl o r s tm re rf v gn d (i + 1) (out ++ [l.getD i z96]) put (by omega) (by rw [List.length_append, List.length_singleton]; omega)
    have n2 := spec_l07Cell_l0 l hl o r s tm re rf v gn d (i + 1) ((out ++ [⟨o, ⟨r, s⟩, tm, ⟨re, rf⟩, v, gn⟩]) ++ [l.getD i z96]) true (by omega)
    simp only [spec_l07Cell.l0, if_pos (show (i : Int) < (l.length : Int) by omega), if_pos (show (0 : Int) ≤ (i : Int) by omega), wr i (by omega), rdI_Cell, drop_getD l i z96 (by omega), if_pos (show out.length < 1954687338268 by omega), spec_before_eq, Option.bind_some, insBy]
    cases put
    · simp only [Bool.false_eq_true, if_false]
      by_cases c : befC r s (l.getD i z96) = true
      · have c' : beforeB r s (l.getD i z96).f1.f0 (l.getD i z96).f1.f1 = true := c
        have n2 := n2 (by rw [List.length_append, List.length_append, List.length_singleton, List.length_singleton]; omega)
        simp only [if_true, List.append_assoc, List.cons_append, List.nil_append] at n2
        simp only [if_pos c', if_pos c, List.append_assoc, List.cons_append, List.nil_append, if_pos (show (out ++ [(⟨o, ⟨r, s⟩, tm, ⟨re, rf⟩, v, gn⟩ : S96)]).length < 1954687338268 by rw [List.length_append, List.length_singleton]; omega)]
        exact n2
      · have c' : ¬ beforeB r s (l.getD i z96).f1.f0 (l.getD i z96).f1.f1 = true := c
        simp only [Bool.false_eq_true, if_false, List.append_assoc, List.cons_append, List.nil_append] at n1
        simp only [if_neg c', if_neg c]
        exact n1
    · simp only [if_true]
      simp only [if_true, List.append_assoc, List.singleton_append] at n1
      exact n1
theorem spec_l07Cell_ev (l : List S96) (hl : l.length ≤ 1000000) (o : ByteArray) (r s tm re rf v : Int) (gn : Bool) : Ev (fun k => spec_l07Cell.f k l o r s tm re rf v gn) (insBy (befC r s) ⟨o, ⟨r, s⟩, tm, ⟨re, rf⟩, v, gn⟩ l) := spec_l07Cell_l0 l hl o r s tm re rf v gn l.length 0 [] false (by omega) (by simp)
theorem impl_withCell_l0 (l : List S96) (hl : l.length ≤ 1000000) (o : ByteArray) (r s tm re rf v : Int) (gn : Bool) : ∀ (d i : Nat), i + d = l.length → Ev (fun k => impl_withCell.l0 k l (i : Int) o r s tm re rf v gn) (l.take i ++ insBy (notC r s) ⟨o, ⟨r, s⟩, tm, ⟨re, rf⟩, v, gn⟩ (l.drop i))
  | 0, i, hi => by
    refine Ev.step (fun k => rfl) ?_
    have h1 : (l.take i).length ≤ 1000000 := by rw [List.length_take]; omega
    have h2 : (l.drop i).length ≤ 1000000 := by rw [List.length_drop]; omega
    have e : l.drop i = [] := List.drop_eq_nil_of_le (by omega)
    simp only [impl_withCell.l0, if_neg (show ¬ (i : Int) < (l.length : Int) by omega), Option.bind_some, if_pos (show (0 : Int) ≤ (i : Int) by omega), if_pos (show (i : Int) ≤ (l.length : Int) by omega), Int.toNat_natCast, List.nil_append, List.length_nil, Nat.zero_add, if_pos (show (l.take i).length < 1954687338268 by omega), List.length_append, List.length_singleton, if_pos (show (l.take i).length + 1 < 1954687338268 by omega), if_pos (show (l.take i).length + 1 + (l.drop i).length < 1954687338268 by omega), e, insBy, List.append_nil]
    exact Ev.now _
  | d + 1, i, hi => by
    refine Ev.step (fun k => rfl) ?_
    have h1 : (l.take i).length ≤ 1000000 := by rw [List.length_take]; omega
    have h2 : (l.drop i).length ≤ 1000000 := by rw [List.length_drop]; omega
    have ih := impl_withCell_l0 l hl o r s tm re rf v gn d (i + 1) (by omega)
    obtain ⟨t, ht, hlt⟩ := impl_cmpDots_ev (l.getD i z96).f1.f0 (l.getD i z96).f1.f1 r s
    simp only [impl_withCell.l0, if_pos (show (i : Int) < (l.length : Int) by omega), if_pos (show (0 : Int) ≤ (i : Int) by omega), rdI_Cell]
    refine Ev.bind ht ?_
    by_cases c : t < 0
    · have hb := hlt.1 c
      simp only [if_pos c, wr i (by omega)]
      rw [drop_getD l i z96 (by omega)]
      unfold insBy
      rw [if_neg (show ¬ notC r s (l.getD i z96) = true by unfold notC; rw [hb]; simp), ← List.singleton_append, ← List.append_assoc, ← take_getD l i z96 (by omega)]
      exact ih
    · have hb : ¬ beforeB (l.getD i z96).f1.f0 (l.getD i z96).f1.f1 r s = true := fun h => c (hlt.2 h)
      have e : insBy (notC r s) ⟨o, ⟨r, s⟩, tm, ⟨re, rf⟩, v, gn⟩ (l.drop i) = [⟨o, ⟨r, s⟩, tm, ⟨re, rf⟩, v, gn⟩] ++ l.drop i := by
        rw [drop_getD l i z96 (by omega)]
        unfold insBy
        rw [if_pos (show notC r s (l.getD i z96) = true by unfold notC; rw [Bool.not_eq_true] at hb; rw [hb]; rfl)]
        rfl
      rw [e]
      simp only [if_neg c, Option.bind_some, if_pos (show (i : Int) ≤ (l.length : Int) by omega), Int.toNat_natCast, List.nil_append, List.length_nil, Nat.zero_add, if_pos (show (l.take i).length < 1954687338268 by omega), List.length_append, List.length_singleton, if_pos (show (l.take i).length + 1 < 1954687338268 by omega), if_pos (show (l.take i).length + 1 + (l.drop i).length < 1954687338268 by omega), List.append_assoc]
      exact Ev.now _
theorem impl_withCell_ev (l : List S96) (hl : l.length ≤ 1000000) (o : ByteArray) (r s tm re rf v : Int) (gn : Bool) : Ev (fun k => impl_withCell.f k l o r s tm re rf v gn) (insBy (notC r s) ⟨o, ⟨r, s⟩, tm, ⟨re, rf⟩, v, gn⟩ l) := impl_withCell_l0 l hl o r s tm re rf v gn l.length 0 (by omega)
theorem spec_KnowOk_l0 (l : List Int) (hl : l.length ≤ 140737488351232) : ∀ d i, i + d = l.length → Ev (fun k => spec_KnowOk.l0 k l (i : Int)) (((l.drop i).all fun x => inB x 0 1000) && ((l.length : Int) == 3))
  | 0, i, hi => by
    refine Ev.step (fun k => rfl) ?_
    simp only [spec_KnowOk.l0, if_neg (show ¬ (i : Int) < (l.length : Int) by omega), List.drop_eq_nil_of_le (show l.length ≤ i by omega), List.all_nil, Bool.true_and]
    exact Ev.now _
  | d + 1, i, hi => by
    refine Ev.step (fun k => rfl) ?_
    have ih := spec_KnowOk_l0 l hl d (i + 1) (by omega)
    simp only [spec_KnowOk.l0, if_pos (show (i : Int) < (l.length : Int) by omega), if_pos (show (0 : Int) ≤ (i : Int) by omega), wr i (by omega), spec_in, Option.bind_some, all_drop l i (by omega)]
    cases inB (rd l (i : Int)) 0 1000
    · exact Ev.now _
    · exact ih
theorem spec_KnowOk_ev (l : List Int) (hl : l.length ≤ 140737488351232) : Ev (fun k => spec_KnowOk.f k l) (knowB l) := spec_KnowOk_l0 l hl l.length 0 (by omega)
theorem spec_Knows_ev (l : List Int) (r s : Int) (hl : l.length ≤ 140737488351232) : Ev (fun k => spec_Knows.f k l r s) (knowsB l r s) := by
  unfold spec_Knows.f knowsB
  refine Ev.bind (spec_KnowOk_ev l hl) ?_
  by_cases ka : knowB l = true
  · simp only [if_pos ka, spec_DotOk_eq, Option.bind_some]
    by_cases kd : dotB r s = true
    · simp only [if_pos kd]
      have h1 : 0 ≤ r ∧ r ≤ 2 := by
        unfold dotB at kd
        by_cases c : inB r 0 2 = true
        · exact inB_true.1 c
        · simp [c] at kd
      have h2 : (l.length : Int) = 3 := by
        unfold knowB at ka
        simp only [Bool.and_eq_true, beq_iff_eq] at ka
        exact ka.2
      simp only [if_pos h1.1, if_pos (show r < (l.length : Int) by omega)]
      exact Ev.now _
    · simp only [if_neg kd]; exact Ev.now _
  · simp only [if_neg ka]; exact Ev.now _
theorem impl_in (x lo hi : Int) : impl_within.f x lo hi = some (inB x lo hi) := in_ite x lo hi
theorem impl_KnowOk_l0 (l : List Int) (hl : l.length ≤ 140737488351232) : ∀ d i, i + d = l.length → Ev (fun k => impl_KnowOk.l0 k l l (l.length : Int) (i : Int)) (((l.drop i).all fun x => inB x 0 1000) && ((l.length : Int) == 3))
  | 0, i, hi => by
    refine Ev.step (fun k => rfl) ?_
    simp only [impl_KnowOk.l0, if_neg (show ¬ (i : Int) < (l.length : Int) by omega), List.drop_eq_nil_of_le (show l.length ≤ i by omega), List.all_nil, Bool.true_and]
    exact Ev.now _
  | d + 1, i, hi => by
    refine Ev.step (fun k => rfl) ?_
    have ih := impl_KnowOk_l0 l hl d (i + 1) (by omega)
    simp only [impl_KnowOk.l0, if_pos (show (i : Int) < (l.length : Int) by omega), if_pos (show (0 : Int) ≤ (i : Int) by omega), wr i (by omega), impl_in, Option.bind_some, all_drop l i (by omega)]
    cases inB (rd l (i : Int)) 0 1000
    · exact Ev.now _
    · exact ih
theorem impl_KnowOk_ev (l : List Int) (hl : l.length ≤ 140737488351232) : Ev (fun k => impl_KnowOk.f k l) (knowB l) := impl_KnowOk_l0 l hl l.length 0 (by omega)
theorem impl_DotOk_eq (r s : Int) : impl_DotOk.f r s = some (dotB r s) := by
  unfold impl_DotOk.f dotB
  simp only [impl_in, Option.bind_some]
  split <;> rfl
theorem impl_Knows_ev (l : List Int) (r s : Int) (hl : l.length ≤ 140737488351232) : Ev (fun k => impl_Knows.f k l r s) (knowsB l r s) := by
  unfold impl_Knows.f knowsB
  refine Ev.bind (impl_KnowOk_ev l hl) ?_
  by_cases ka : knowB l = true
  · simp only [if_pos ka, impl_DotOk_eq, Option.bind_some]
    by_cases kd : dotB r s = true
    · simp only [if_pos kd]
      have h1 : 0 ≤ r ∧ r ≤ 2 := by
        unfold dotB at kd
        by_cases c : inB r 0 2 = true
        · exact inB_true.1 c
        · simp [c] at kd
      have h2 : (l.length : Int) = 3 := by
        unfold knowB at ka
        simp only [Bool.and_eq_true, beq_iff_eq] at ka
        exact ka.2
      simp only [if_pos h1.1, if_pos (show r < (l.length : Int) by omega)]
      exact Ev.now _
    · simp only [if_neg kd]; exact Ev.now _
  · simp only [if_neg ka]; exact Ev.now _
def keepB (m : Bool) (o q : ByteArray) (kn : List Int) (y : S93) : Bool := if (y.f0 != m) = true then true else if y.f1.toList = o.toList then (if y.f2.toList = q.toList then !knowsB kn y.f4.f0 y.f4.f1 else true) else true
theorem filter_drop {α : Type} (p : α → Bool) (l : List α) (i : Nat) (z : α) (h : i < l.length) (out : List α) : out ++ (l.drop i).filter p = if p (l.getD i z) = true then (out ++ [l.getD i z]) ++ (l.drop (i + 1)).filter p else out ++ (l.drop (i + 1)).filter p := by
  rw [drop_getD l i z h, List.filter_cons]
  split <;> simp
theorem spec_l07Clear_l0 (l : List S93) (hl : l.length ≤ 1000000) (m : Bool) (o q : ByteArray) (kn : List Int) (hk : kn.length ≤ 140737488351232) : ∀ (d i : Nat) (out : List S93), i + d = l.length → out.length ≤ i → Ev (fun k => spec_l07Clear.l0 k m o q kn l out (i : Int)) (out ++ (l.drop i).filter (keepB m o q kn))
  | 0, i, out, hi, ho => by
    refine Ev.step (fun k => rfl) ?_
    simp only [spec_l07Clear.l0, if_neg (show ¬ (i : Int) < (l.length : Int) by omega), List.drop_eq_nil_of_le (show l.length ≤ i by omega), List.filter_nil, List.append_nil]
    exact Ev.now _
  | d + 1, i, out, hi, ho => by
    refine Ev.step (fun k => rfl) ?_
    have n1 := spec_l07Clear_l0 l hl m o q kn hk d (i + 1) (out ++ [l.getD i z93]) (by omega) (by rw [List.length_append, List.length_singleton]; omega)
    have n2 := spec_l07Clear_l0 l hl m o q kn hk d (i + 1) out (by omega) (by omega)
    have hkn := spec_Knows_ev kn (l.getD i z93).f4.f0 (l.getD i z93).f4.f1 hk
    rw [filter_drop _ l i z93 (by omega)]
    unfold keepB at n1 n2 ⊢
    simp only [spec_l07Clear.l0, if_pos (show (i : Int) < (l.length : Int) by omega), if_pos (show (0 : Int) ≤ (i : Int) by omega), wr i (by omega), rdI_Live, if_pos (show out.length < 2199023255552 by omega)]
    by_cases c1 : ((l.getD i z93).f0 != m) = true
    · simp only [if_pos c1, if_true]; exact n1
    · by_cases c2 : (l.getD i z93).f1.toList = o.toList
      · by_cases c3 : (l.getD i z93).f2.toList = q.toList
        · simp only [if_neg c1, if_pos c2, if_pos c3]
          refine Ev.bind hkn ?_
          by_cases c4 : knowsB kn (l.getD i z93).f4.f0 (l.getD i z93).f4.f1 = true
          · simp only [if_pos c4, c4, Bool.not_true, Bool.false_eq_true, if_false]; exact n2
          · rw [Bool.not_eq_true] at c4
            simp only [c4, Bool.not_false, Bool.false_eq_true, if_false, if_true]; exact n1
        · simp only [if_neg c1, if_pos c2, if_neg c3, if_true]; exact n1
      · simp only [if_neg c1, if_neg c2, if_true]; exact n1
theorem spec_l07Clear_ev (l : List S93) (hl : l.length ≤ 1000000) (m : Bool) (o q : ByteArray) (kn : List Int) (hk : kn.length ≤ 140737488351232) : Ev (fun k => spec_l07Clear.f k l m o q kn) (l.filter (keepB m o q kn)) := spec_l07Clear_l0 l hl m o q kn hk l.length 0 [] (by omega) (by simp)
theorem impl_withoutKnown_l0 (l : List S93) (hl : l.length ≤ 1000000) (m : Bool) (a b c : Int) (kn : List Int) (hk : kn.length ≤ 140737488351232) (e : Int) (o q : ByteArray) (f g h : Int) : ∀ (d i : Nat) (out : List S93), i + d = l.length → out.length ≤ i → Ev (fun k => impl_withoutKnown.l0 k m out l (l.length : Int) (i : Int) a b c kn e o q f g h) (out ++ (l.drop i).filter (keepB m o q kn))
  | 0, i, out, hi, ho => by
    refine Ev.step (fun k => rfl) ?_
    simp only [impl_withoutKnown.l0, if_neg (show ¬ (i : Int) < (l.length : Int) by omega), List.drop_eq_nil_of_le (show l.length ≤ i by omega), List.filter_nil, List.append_nil]
    exact Ev.now _
  | d + 1, i, out, hi, ho => by
    refine Ev.step (fun k => rfl) ?_
    have n1 := impl_withoutKnown_l0 l hl m a b c kn hk e o q f g h d (i + 1) (out ++ [l.getD i z93]) (by omega) (by rw [List.length_append, List.length_singleton]; omega)
    have n2 := impl_withoutKnown_l0 l hl m a b c kn hk e o q f g h d (i + 1) out (by omega) (by omega)
    have hkn := impl_Knows_ev kn (l.getD i z93).f4.f0 (l.getD i z93).f4.f1 hk
    rw [filter_drop _ l i z93 (by omega)]
    unfold keepB at n1 n2 ⊢
    simp only [impl_withoutKnown.l0, if_pos (show (i : Int) < (l.length : Int) by omega), if_pos (show (0 : Int) ≤ (i : Int) by omega), wr i (by omega), rdI_Live, if_pos (show out.length < 2199023255552 by omega)]
    by_cases c1 : ((l.getD i z93).f0 != m) = true
    · simp only [if_pos c1, if_true]; exact n1
    · by_cases c2 : (l.getD i z93).f1.toList = o.toList
      · by_cases c3 : (l.getD i z93).f2.toList = q.toList
        · simp only [if_neg c1, if_pos c2, if_pos c3]
          refine Ev.bind hkn ?_
          by_cases c4 : knowsB kn (l.getD i z93).f4.f0 (l.getD i z93).f4.f1 = true
          · simp only [if_pos c4, c4, Bool.not_true, Bool.false_eq_true, if_false]; exact n2
          · rw [Bool.not_eq_true] at c4
            simp only [c4, Bool.not_false, Bool.false_eq_true, if_false, if_true]; exact n1
        · simp only [if_neg c1, if_pos c2, if_neg c3, if_true]; exact n1
      · simp only [if_neg c1, if_neg c2, if_true]; exact n1
theorem impl_withoutKnown_ev (l : List S93) (hl : l.length ≤ 1000000) (m : Bool) (a b c : Int) (kn : List Int) (hk : kn.length ≤ 140737488351232) (e : Int) (o q : ByteArray) (f g h : Int) : Ev (fun k => impl_withoutKnown.f k l m a b c kn e o q f g h) (l.filter (keepB m o q kn)) := by
  exact impl_withoutKnown_l0 l hl m a b c kn hk e o q f g h l.length 0 [] (by omega) (by simp)
theorem toL (s : ByteArray) : s.toList = s.data.toList := ByteArray.toList_eq s
theorem len_toL (s : ByteArray) : s.toList.length = s.size := by rw [toL, Array.length_toList]; rfl
theorem less_trans : ∀ {a b c : List UInt8}, Op.bytesLess a b = true → Op.bytesLess b c = true → Op.bytesLess a c = true
  | a, b, [], h1, h2 => by cases b <;> simp [Op.bytesLess] at h2
  | a, [], c :: z, h1, h2 => by cases a <;> simp [Op.bytesLess] at h1
  | [], b :: y, c :: z, h1, h2 => by simp [Op.bytesLess]
  | a :: x, b :: y, c :: z, h1, h2 => by
    have ih := @less_trans x y z
    simp only [Op.bytesLess, Bool.or_eq_true, decide_eq_true_eq, Bool.and_eq_true, beq_iff_eq] at h1 h2 ⊢
    rcases h1 with h1 | ⟨rfl, h1⟩
    · rcases h2 with h2 | ⟨rfl, h2⟩
      · exact .inl (UInt8.lt_trans h1 h2)
      · exact .inl h1
    · rcases h2 with h2 | ⟨rfl, h2⟩
      · exact .inl h2
      · exact .inr ⟨rfl, ih h1 h2⟩
theorem ordT_iff {a b : List UInt8} {r s : Int} : ordT a r b s = true ↔ Op.bytesLess a b = true ∨ a = b ∧ r < s := by
  unfold ordT
  by_cases h : Op.bytesLess a b = true
  · simp [h]
  · rw [if_neg h]
    by_cases e : a = b
    · simp [e, less_self]
    · simp [h, e]
theorem ordT_trans {a b c : List UInt8} {r s t : Int} (h1 : ordT a r b s = true) (h2 : ordT b s c t = true) : ordT a r c t = true := by
  rw [ordT_iff] at h1 h2 ⊢
  rcases h1 with h1 | ⟨rfl, h1⟩
  · rcases h2 with h2 | ⟨rfl, h2⟩
    · exact .inl (less_trans h1 h2)
    · exact .inl h1
  · rcases h2 with h2 | ⟨rfl, h2⟩
    · exact .inl h2
    · exact .inr ⟨rfl, by omega⟩
theorem ordT_asymm {a b : List UInt8} {r s : Int} (h : ordT a r b s = true) : ¬ ordT b s a r = true := by
  rw [ordT_iff] at h ⊢
  rintro (h2 | ⟨e, h2⟩)
  · rcases h with h | ⟨rfl, h⟩
    · rw [less_asymm h] at h2; cases h2
    · rw [less_self] at h2; cases h2
  · subst e
    rcases h with h | ⟨_, h⟩
    · rw [less_self] at h; cases h
    · omega
theorem ordT_total {a b : List UInt8} {r s : Int} (h1 : ¬ ordT a r b s = true) (h2 : ¬ (a = b ∧ r = s)) : ordT b s a r = true := by
  rw [ordT_iff] at h1 ⊢
  by_cases hb : Op.bytesLess b a = true
  · exact .inl hb
  · have ha : ¬ Op.bytesLess a b = true := fun h => h1 (.inl h)
    rw [Bool.not_eq_true] at ha hb
    have e := less_total ha hb
    subst e
    have n1 : ¬ r < s := fun h => h1 (.inr ⟨rfl, h⟩)
    have n2 : ¬ r = s := fun h => h2 ⟨rfl, h⟩
    exact .inr ⟨rfl, by omega⟩
def SortT : List S90 → Prop
  | [] => True
  | y :: l => (∀ z ∈ l, ordT y.f0.toList y.f1 z.f0.toList z.f1 = true) ∧ SortT l
theorem sortT_of : ∀ (l : List S90), (∀ i, 0 < i → i < l.length → ordT (l.getD (i - 1) z90).f0.toList (l.getD (i - 1) z90).f1 (l.getD i z90).f0.toList (l.getD i z90).f1 = true) → SortT l
  | [], _ => trivial
  | [y], _ => ⟨fun z hz => (by cases hz), trivial⟩
  | y :: x :: l, h => by
    have ih := sortT_of (x :: l) (fun i hi hl => by
      have := h (i + 1) (by omega) (by simp at hl ⊢; omega)
      obtain ⟨j, rfl⟩ : ∃ j, i = j + 1 := ⟨i - 1, by omega⟩
      simpa using this)
    have h1 : ordT y.f0.toList y.f1 x.f0.toList x.f1 = true := by simpa using h 1 (by omega) (by simp)
    refine ⟨fun z hz => ?_, ih⟩
    rcases List.mem_cons.1 hz with rfl | hz
    · exact h1
    · exact ordT_trans h1 (ih.1 z hz)
theorem sortT_all {l : List S90} (h : tallyAll l = true) : SortT l := by
  unfold tallyAll at h
  split at h
  · rename_i h1
    rw [allB_true] at h1
    refine sortT_of l (fun i hi hl => ?_)
    have := h1 i (by omega) (by omega)
    unfold tallyP at this
    simp only [if_pos hi] at this
    split at this
    · split at this
      · split at this
        · exact this
        · cases this
      · cases this
    · cases this
  · cases h
def eqT (o : ByteArray) (rp : Int) (y : S90) : Bool := if y.f0.toList = o.toList then decide (y.f1 = rp) else false
def gtT (o : ByteArray) (rp : Int) (y : S90) : Bool := ordT o.toList rp y.f0.toList y.f1
def newT (o : ByteArray) (rp vl : Int) (y : S90) : S90 := ⟨y.f0, y.f1, Int.tmod (wrap64 (y.f2 + vl)) 1000000⟩
def setT (o : ByteArray) (rp vl : Int) : List S90 → Option (List S90)
  | [] => none
  | y :: l => if eqT o rp y = true then some (newT o rp vl y :: l) else (setT o rp vl l).map (y :: ·)
def specT (o : ByteArray) (rp vl : Int) (l : List S90) : List S90 := match setT o rp vl l with
  | some l' => l'
  | none => insBy (gtT o rp) ⟨o, rp, vl⟩ l
def talV (o : ByteArray) (rp vl : Int) : List S90 → List S90
  | [] => [⟨o, rp, Int.tmod (wrap64 (0 + vl)) 1000000⟩]
  | y :: l => if ordT y.f0.toList y.f1 o.toList rp = true then y :: talV o rp vl l else (if eqT o rp y = true then ⟨o, rp, Int.tmod (wrap64 (y.f2 + vl)) 1000000⟩ :: l else ⟨o, rp, Int.tmod (wrap64 (0 + vl)) 1000000⟩ :: y :: l)
theorem eqT_iff {o : ByteArray} {rp : Int} {y : S90} : eqT o rp y = true ↔ y.f0 = o ∧ y.f1 = rp := by
  unfold eqT
  by_cases h : y.f0.toList = o.toList
  · rw [if_pos h, decide_eq_true_eq]
    have : y.f0 = o := by rw [toL, toL] at h; exact ByteArray.ext (Array.toList_inj.1 h)
    simp [this]
  · rw [if_neg h]
    simp only [Bool.false_eq_true, false_iff]
    rintro ⟨e, _⟩
    exact h (by rw [e])
theorem talV_eq (o : ByteArray) (rp vl : Int) (hv : Int.tmod (wrap64 (0 + vl)) 1000000 = vl) : ∀ (l : List S90), SortT l → talV o rp vl l = specT o rp vl l
  | [], _ => by unfold talV specT setT insBy; rw [hv]
  | y :: l, hs => by
    have ih := talV_eq o rp vl hv l hs.2
    unfold talV specT setT
    by_cases c1 : ordT y.f0.toList y.f1 o.toList rp = true
    · have c2 : ¬ eqT o rp y = true := fun h => by
        obtain ⟨e1, e2⟩ := eqT_iff.1 h
        rw [e1, e2] at c1; exact ordT_asymm c1 c1
      have c3 : ¬ gtT o rp y = true := ordT_asymm c1
      rw [if_pos c1, if_neg c2, ih]
      unfold specT
      cases setT o rp vl l with
      | none => show y :: insBy _ _ l = insBy _ _ (y :: l); rw [insBy, if_neg c3]
      | some l' => rfl
    · rw [if_neg c1]
      by_cases c2 : eqT o rp y = true
      · obtain ⟨e1, e2⟩ := eqT_iff.1 c2
        rw [if_pos c2, if_pos c2]
        unfold newT
        rw [e1, e2]
      · have c3 : gtT o rp y = true := ordT_total c1 (fun h => c2 (eqT_iff.2 ⟨by have h1 := h.1; rw [toL, toL] at h1; exact ByteArray.ext (Array.toList_inj.1 h1), h.2⟩))
        have hn : setT o rp vl l = none := by
          have hh : ∀ z ∈ l, ¬ eqT o rp z = true := fun z hz h => by
            obtain ⟨e1, e2⟩ := eqT_iff.1 h
            have := hs.1 z hz
            rw [e1, e2] at this
            exact c1 this
          clear ih hs
          induction l with
          | nil => rfl
          | cons z l ih2 =>
            unfold setT
            rw [if_neg (hh z List.mem_cons_self), ih2 (fun z' hz => hh z' (List.mem_cons_of_mem _ hz))]
            rfl
        rw [if_neg c2, if_neg c2, hn]
        unfold insBy
        rw [if_pos c3, hv]
        rfl
theorem impl_cmpTallies_ev2 (s : ByteArray) (a b : Int) (t : ByteArray) (c d : Int) : ∃ r, Ev (fun k => impl_compareTallies.f k s a b t c d) r ∧ (r < 0 ↔ ordT s.toList a t.toList c = true) ∧ (r = 0 ↔ s.toList = t.toList ∧ a = c) := by
  refine ⟨_, by simp only [impl_compareTallies.f, cmp_int_eq, cmp_string_eq, Option.bind_some]; exact Ev.bind (cmp_Or_ev _ _) (Ev.now _), ?_⟩
  unfold ordT
  cases h : Op.bytesLess s.toList t.toList
  · cases h2 : Op.bytesLess t.toList s.toList
    · have h3 := less_total h h2
      simp only [Bool.false_eq_true, if_false, if_pos h3, if_true]
      by_cases h4 : a < c
      · simp [h4]; omega
      · by_cases h5 : a > c
        · simp [h4, h5]; omega
        · have h6 : a = c := by omega
          simp [h6, h3]
    · have h3 : ¬ s.toList = t.toList := fun e => by rw [e, less_self] at h2; cases h2
      simp [h3]
  · have h3 : ¬ s.toList = t.toList := fun e => by rw [e, less_self] at h; cases h
    simp [h3]
theorem spec_l07Tally_l1 (l : List S90) (hl : l.length ≤ 1000000) (o : ByteArray) (rp vl : Int) : ∀ (d i : Nat) (out : List S90) (put : Bool), i + d = l.length → out.length ≤ 2 * i + 2 → Ev (fun k => spec_l07Tally.l1 k o rp vl l out put (i : Int)) (out ++ if put = true then l.drop i else insBy (gtT o rp) ⟨o, rp, vl⟩ (l.drop i))
  | 0, i, out, put, hi, ho => by
    refine Ev.step (fun k => rfl) ?_
    simp only [spec_l07Tally.l1, if_neg (show ¬ (i : Int) < (l.length : Int) by omega), List.drop_eq_nil_of_le (show l.length ≤ i by omega), if_pos (show out.length < 2199023255552 by omega), insBy]
    cases put
    · simp only [Bool.false_eq_true, if_false]; exact Ev.now _
    · simp only [if_true, List.append_nil]; exact Ev.now _
  | d + 1, i, out, put, hi, ho => by
    refine Ev.step (fun k => rfl) ?_
    have n1 := fun put => spec_l07Tally_l1 l hl o rp vl d (i + 1) (out ++ [l.getD i z90]) put (by omega) (by rw [List.length_append, List.length_singleton]; omega)
    have n2 := spec_l07Tally_l1 l hl o rp vl d (i + 1) ((out ++ [⟨o, rp, vl⟩]) ++ [l.getD i z90]) true (by omega) (by rw [List.length_append, List.length_append, List.length_singleton, List.length_singleton]; omega)
    have hlen : (out ++ [(⟨o, rp, vl⟩ : S90)]).length < 2199023255552 := by rw [List.length_append, List.length_singleton]; omega
    simp only [if_true, List.append_assoc, List.cons_append, List.nil_append] at n2
    simp only [spec_l07Tally.l1, if_pos (show (i : Int) < (l.length : Int) by omega), if_pos (show (0 : Int) ≤ (i : Int) by omega), wr i (by omega), rdI_Tally, drop_getD l i z90 (by omega), if_pos (show out.length < 2199023255552 by omega), if_pos hlen, Option.bind_some, insBy]
    cases put
    · have n0 := n1 false
      simp only [Bool.false_eq_true, if_false, List.append_assoc, List.cons_append, List.nil_append] at n0
      simp only [Bool.false_eq_true, if_false]
      by_cases c1 : Op.bytesLess o.toList (l.getD i z90).f0.toList = true
      · have c : gtT o rp (l.getD i z90) = true := ordT_iff.2 (.inl c1)
        simp only [if_pos c1, if_pos c, List.append_assoc, List.cons_append, List.nil_append]
        exact n2
      · by_cases c2 : (l.getD i z90).f0.toList = o.toList
        · by_cases c3 : rp < (l.getD i z90).f1
          · have c : gtT o rp (l.getD i z90) = true := ordT_iff.2 (.inr ⟨c2.symm, c3⟩)
            simp only [if_neg c1, if_pos c2, if_pos c3, if_pos c, List.append_assoc, List.cons_append, List.nil_append]
            exact n2
          · have c : ¬ gtT o rp (l.getD i z90) = true := fun h => by
              rcases ordT_iff.1 h with h | ⟨_, h⟩
              · exact c1 h
              · exact c3 h
            simp only [if_neg c1, if_pos c2, if_neg c3, if_neg c]
            exact n0
        · have c : ¬ gtT o rp (l.getD i z90) = true := fun h => by
            rcases ordT_iff.1 h with h | ⟨h, _⟩
            · exact c1 h
            · exact c2 h.symm
          simp only [if_neg c1, if_neg c2, if_neg c]
          exact n0
    · have n0 := n1 true
      simp only [if_true, List.append_assoc, List.singleton_append] at n0
      simp only [if_true]
      exact n0
theorem spec_l07Tally_l0 (l : List S90) (hl : l.length ≤ 1000000) (o : ByteArray) (rp vl : Int) : ∀ (d i : Nat), i + d = l.length → Ev (fun k => spec_l07Tally.l0 k o rp vl l (i : Int)) (match setT o rp vl (l.drop i) with | some l' => l.take i ++ l' | none => insBy (gtT o rp) ⟨o, rp, vl⟩ l)
  | 0, i, hi => by
    refine Ev.step (fun k => rfl) ?_
    have n1 := spec_l07Tally_l1 l hl o rp vl l.length 0 [] false (by omega) (by simp)
    simp only [Bool.false_eq_true, if_false, List.nil_append, List.drop_zero] at n1
    simp only [spec_l07Tally.l0, if_neg (show ¬ (i : Int) < (l.length : Int) by omega), List.drop_eq_nil_of_le (show l.length ≤ i by omega), setT]
    exact n1
  | d + 1, i, hi => by
    refine Ev.step (fun k => rfl) ?_
    have ih := spec_l07Tally_l0 l hl o rp vl d (i + 1) (by omega)
    have tail : ¬ eqT o rp (l.getD i z90) = true → Ev (fun k => spec_l07Tally.l0 k o rp vl l ((i + 1 : Nat) : Int)) (match setT o rp vl (l.getD i z90 :: l.drop (i + 1)) with | some l' => l.take i ++ l' | none => insBy (gtT o rp) ⟨o, rp, vl⟩ l) := by
      intro hn
      unfold setT
      rw [if_neg hn]
      rw [take_getD l i z90 (by omega)] at ih
      cases hs : setT o rp vl (l.drop (i + 1)) with
      | none => rw [hs] at ih; exact ih
      | some l' => rw [hs] at ih; simpa using ih
    simp only [spec_l07Tally.l0, if_pos (show (i : Int) < (l.length : Int) by omega), if_pos (show (0 : Int) ≤ (i : Int) by omega), wr i (by omega), rdI_Tally, drop_getD l i z90 (by omega), Int.toNat_natCast]
    by_cases c1 : (l.getD i z90).f0.toList = o.toList
    · by_cases c2 : (l.getD i z90).f1 = rp
      · have c : eqT o rp (l.getD i z90) = true := by unfold eqT; rw [if_pos c1, c2]; simp
        simp only [if_pos c1, if_pos c2, setT, if_pos c]
        rw [show l.take i ++ newT o rp vl (l.getD i z90) :: l.drop (i + 1) = l.set i (newT o rp vl (l.getD i z90)) from (List.set_eq_take_append_cons_drop ▸ by rw [if_pos (by omega)])]
        exact Ev.now _
      · have c : ¬ eqT o rp (l.getD i z90) = true := by unfold eqT; rw [if_pos c1]; simpa using c2
        simp only [if_pos c1, if_neg c2]
        exact tail c
    · have c : ¬ eqT o rp (l.getD i z90) = true := by unfold eqT; rw [if_neg c1]; simp
      simp only [if_neg c1]
      exact tail c
theorem spec_l07Tally_ev (l : List S90) (hl : l.length ≤ 1000000) (o : ByteArray) (rp vl : Int) : Ev (fun k => spec_l07Tally.f k l o rp vl) (specT o rp vl l) := by
  have h := spec_l07Tally_l0 l hl o rp vl l.length 0 (by omega)
  simp only [List.drop_zero, List.take_zero, List.nil_append] at h
  exact h
theorem impl_withTally_l0 (l : List S90) (hl : l.length ≤ 1000000) (o : ByteArray) (rp vl : Int) : ∀ (d i : Nat), i + d = l.length → Ev (fun k => impl_withTally.l0 k l vl (i : Int) o rp 0) (l.take i ++ talV o rp vl (l.drop i))
  | 0, i, hi => by
    refine Ev.step (fun k => rfl) ?_
    have h1 : (l.take i).length ≤ 1000000 := by rw [List.length_take]; omega
    have e : l.drop i = [] := List.drop_eq_nil_of_le (by omega)
    simp only [impl_withTally.l0, if_neg (show ¬ (i : Int) < (l.length : Int) by omega), Option.bind_some, if_pos (show (0 : Int) ≤ (i : Int) by omega), if_pos (show (i : Int) ≤ (l.length : Int) by omega), Int.toNat_natCast, e, List.nil_append, List.length_nil, Nat.zero_add, if_neg (show ¬ ((0 : Nat) : Int) > 0 by decide), if_pos (show (l.take i).length < 4398046511104 by omega), List.length_append, List.length_singleton, if_pos (show (l.take i).length + 1 < 4398046511104 by omega), if_pos (show (l.take i).length + 1 + 0 < 4398046511104 by omega), talV, List.append_nil]
    exact Ev.now _
  | d + 1, i, hi => by
    refine Ev.step (fun k => rfl) ?_
    have h1 : (l.take i).length ≤ 1000000 := by rw [List.length_take]; omega
    have h2 : (l.drop (i + 1)).length ≤ 1000000 := by rw [List.length_drop]; omega
    have ih := impl_withTally_l0 l hl o rp vl d (i + 1) (by omega)
    rw [take_getD l i z90 (by omega)] at ih
    have r0 : ∀ y : S90, ∀ D : List S90, rd_T90 (y :: D) 0 = y := fun y D => rfl
    obtain ⟨t, ht, hlt, heq⟩ := impl_cmpTallies_ev2 (l.getD i z90).f0 (l.getD i z90).f1 (l.getD i z90).f2 o rp 0
    simp only [impl_withTally.l0, if_pos (show (i : Int) < (l.length : Int) by omega), if_pos (show (0 : Int) ≤ (i : Int) by omega), rdI_Tally]
    refine Ev.bind ht ?_
    by_cases c : t < 0
    · simp only [if_pos c, wr i (by omega)]
      rw [drop_getD l i z90 (by omega), talV, if_pos (hlt.1 c)]
      simpa using ih
    · have c1 : ¬ ordT (l.getD i z90).f0.toList (l.getD i z90).f1 o.toList rp = true := fun h => c (hlt.2 h)
      simp only [if_neg c, Option.bind_some, if_pos (show (i : Int) ≤ (l.length : Int) by omega), Int.toNat_natCast, drop_getD l i z90 (by omega), r0, List.length_cons, if_pos (show (((l.drop (i + 1)).length + 1 : Nat) : Int) > 0 by omega), if_pos (show (0 : Int) < (((l.drop (i + 1)).length + 1 : Nat) : Int) by omega)]
      refine Ev.bind ht ?_
      rw [talV, if_neg c1]
      by_cases c2 : t = 0
      · have e := heq.1 c2
        have c3 : eqT o rp (l.getD i z90) = true := by unfold eqT; rw [if_pos e.1, e.2]; simp
        simp only [if_pos c2, if_pos c3, if_pos (show (1 : Int) ≤ (((l.drop (i + 1)).length + 1 : Nat) : Int) by omega), List.drop_succ_cons, List.drop_zero, List.nil_append, List.length_nil, Nat.zero_add, if_pos (show (l.take i).length < 4398046511104 by omega), List.length_append, List.length_cons, if_pos (show (l.take i).length + 1 < 4398046511104 by omega), if_pos (show (l.take i).length + 1 + (l.drop (i + 1)).length < 4398046511104 by omega), List.append_assoc, List.cons_append]
        exact Ev.now _
      · have c3 : ¬ eqT o rp (l.getD i z90) = true := fun h => c2 (heq.2 (by obtain ⟨e1, e2⟩ := eqT_iff.1 h; exact ⟨by rw [e1], e2⟩))
        simp only [if_neg c2, if_neg c3, List.nil_append, List.length_nil, Nat.zero_add, if_pos (show (l.take i).length < 4398046511104 by omega), List.length_append, List.length_cons, if_pos (show (l.take i).length + 1 < 4398046511104 by omega), if_pos (show (l.take i).length + 1 + ((l.drop (i + 1)).length + 1) < 4398046511104 by omega), List.append_assoc, List.cons_append]
        exact Ev.now _
theorem impl_withTally_ev (l : List S90) (hl : l.length ≤ 1000000) (o : ByteArray) (rp vl : Int) : Ev (fun k => impl_withTally.f k l o rp vl) (talV o rp vl l) := by
  have h := impl_withTally_l0 l hl o rp vl l.length 0 (by omega)
  simp only [List.drop_zero, List.take_zero, List.nil_append] at h
  exact h
def cellIx (a b : Int) : List S96 → Int → Int
  | [], _ => -1
  | x :: l, i => if (x.f1.f0 == a && (x.f1.f1 == b)) = true then i else cellIx a b l (i + 1)
theorem cellIx_drop (a b : Int) (l : List S96) (i : Nat) (h : i < l.length) : cellIx a b (l.drop i) (i : Int) = if ((l.getD i z96).f1.f0 == a && ((l.getD i z96).f1.f1 == b)) = true then (i : Int) else cellIx a b (l.drop (i + 1)) (((i + 1 : Nat)) : Int) := by
  rw [drop_getD l i z96 h]
  simp only [cellIx]
  rw [show ((i + 1 : Nat) : Int) = (i : Int) + 1 by omega]
theorem spec_CellAt_l0 (x : List Int) (y : List S90) (z : List S93) (l : List S96) (a b : Int) (hl : l.length ≤ 140737488351232) : ∀ d i, i + d = l.length → Ev (fun k => spec_CellAt.l0 k (i : Int) x y z l a b) (cellIx a b (l.drop i) (i : Int))
  | 0, i, hi => by
    refine Ev.step (fun k => rfl) ?_
    simp only [spec_CellAt.l0, if_neg (show ¬ (i : Int) < (l.length : Int) by omega), List.drop_eq_nil_of_le (show l.length ≤ i by omega), cellIx]
    exact Ev.now _
  | d + 1, i, hi => by
    refine Ev.step (fun k => rfl) ?_
    have ih := spec_CellAt_l0 x y z l a b hl d (i + 1) (by omega)
    simp only [spec_CellAt.l0, if_pos (show (i : Int) < (l.length : Int) by omega), if_pos (show (0 : Int) ≤ (i : Int) by omega), wr i (by omega), rdI_Cell, cellIx_drop a b l i (by omega)]
    by_cases c1 : ((l.getD i z96).f1.f0 == a && ((l.getD i z96).f1.f1 == b)) = true
    · simp only [if_pos c1]; exact Ev.now _
    · simp only [if_neg c1]; exact ih
theorem spec_CellAt_ev (x : List Int) (y : List S90) (z : List S93) (l : List S96) (a b : Int) (hl : l.length ≤ 140737488351232) : Ev (fun k => spec_CellAt.f k x y z l a b) (cellIx a b l 0) := by
  have := spec_CellAt_l0 x y z l a b hl l.length 0 (by omega)
  simpa [spec_CellAt.f] using this
def isDot (a b : Int) (x : S96) : Bool := (x.f1.f0 == a && (x.f1.f1 == b))
theorem isDot_true {a b : Int} {x : S96} : isDot a b x = true ↔ x.f1.f0 = a ∧ x.f1.f1 = b := by simp [isDot]
theorem cellIx_cases (a b : Int) (l : List S96) : ∀ d i, i + d = l.length → (cellIx a b (l.drop i) (i : Int) = -1 ∧ ∀ j, i ≤ j → j < l.length → ¬ isDot a b (l.getD j z96) = true) ∨ ∃ j : Nat, i ≤ j ∧ j < l.length ∧ cellIx a b (l.drop i) (i : Int) = (j : Int) ∧ isDot a b (l.getD j z96) = true
  | 0, i, hi => Or.inl ⟨by rw [List.drop_eq_nil_of_le (by omega)]; rfl, fun j h1 h2 => by omega⟩
  | d + 1, i, hi => by
    rw [cellIx_drop a b l i (by omega)]
    by_cases c : ((l.getD i z96).f1.f0 == a && ((l.getD i z96).f1.f1 == b)) = true
    · rw [if_pos c]; exact Or.inr ⟨i, Nat.le_refl _, by omega, rfl, c⟩
    · rw [if_neg c]
      rcases cellIx_cases a b l d (i + 1) (by omega) with ⟨h1, h2⟩ | ⟨j, h1, h2, h3, h4⟩
      · refine Or.inl ⟨h1, fun j h3 h4 => ?_⟩
        by_cases e : j = i
        · subst e; exact c
        · exact h2 j (by omega) h4
      · exact Or.inr ⟨j, by omega, h2, h3, h4⟩
theorem lastIx_cases (a b : Int) (l : List S96) : ∀ n, (lastIx a b l n = -1 ∧ ∀ j, j < n → ¬ isDot a b (l.getD j z96) = true) ∨ ∃ j : Nat, j < n ∧ lastIx a b l n = (j : Int) ∧ isDot a b (l.getD j z96) = true
  | 0 => Or.inl ⟨rfl, fun j h => by omega⟩
  | n + 1 => by
    unfold lastIx
    rw [rdI_Cell]
    by_cases c : ((l.getD n z96).f1.f0 == a && ((l.getD n z96).f1.f1 == b)) = true
    · rw [if_pos c]; exact Or.inr ⟨n, by omega, rfl, c⟩
    · rw [if_neg c]
      rcases lastIx_cases a b l n with ⟨h1, h2⟩ | ⟨j, h1, h2, h3⟩
      · refine Or.inl ⟨h1, fun j h3 => ?_⟩
        by_cases e : j = n
        · subst e; exact c
        · exact h2 j (by omega)
      · exact Or.inr ⟨j, by omega, h2, h3⟩
theorem ordC_lt {l : List S96} {n : Nat} (h : ∀ i, i < n → ordC l i = true) : ∀ j, j < n → ∀ i, i < j → beforeB (l.getD i z96).f1.f0 (l.getD i z96).f1.f1 (l.getD j z96).f1.f0 (l.getD j z96).f1.f1 = true
  | 0, _, i, hi => by omega
  | j + 1, hj, i, hi => by
    have h1 := h (j + 1) hj
    unfold ordC at h1
    rw [if_pos (by omega), show j + 1 - 1 = j from rfl] at h1
    by_cases e : i = j
    · subst e; exact h1
    · have h2 := ordC_lt h j (by omega) i (by omega)
      rw [beforeB_true] at h1 h2 ⊢
      omega
theorem first_last (a b : Int) (l : List S96) (h : ∀ i, i < l.length → ordC l i = true) : cellIx a b l 0 = lastIx a b l l.length := by
  have h1 := cellIx_cases a b l l.length 0 (by omega)
  have h2 := lastIx_cases a b l l.length
  rw [List.drop_zero] at h1
  have h1' : (cellIx a b l 0 = -1 ∧ ∀ j, 0 ≤ j → j < l.length → ¬ isDot a b (l.getD j z96) = true) ∨ ∃ j : Nat, 0 ≤ j ∧ j < l.length ∧ cellIx a b l 0 = (j : Int) ∧ isDot a b (l.getD j z96) = true := h1
  rcases h1' with ⟨e1, f1⟩ | ⟨i, _, hi, e1, f1⟩
  · rcases h2 with ⟨e2, f2⟩ | ⟨j, hj, e2, f2⟩
    · rw [e1, e2]
    · exact absurd f2 (f1 j (by omega) hj)
  · rcases h2 with ⟨e2, f2⟩ | ⟨j, hj, e2, f2⟩
    · exact absurd f1 (f2 i hi)
    · rw [e1, e2]
      rw [isDot_true] at f1 f2
      have : i = j := by
        rcases Nat.lt_trichotomy i j with h3 | h3 | h3
        · have := ordC_lt h j hj i h3; rw [beforeB_true] at this; omega
        · exact h3
        · have := ordC_lt h i hi j h3; rw [beforeB_true] at this; omega
      rw [this]
def refS (l : List S96) (x : S96) : Bool :=
  if (x.f3.f0 == 0 && (x.f3.f1 == 0)) = true then true else if cellIx x.f3.f0 x.f3.f1 l 0 < 0 then false else if (rd_T96 l (cellIx x.f3.f0 x.f3.f1 l 0)).f0.toList = x.f0.toList then (if (rd_T96 l (cellIx x.f3.f0 x.f3.f1 l 0)).f2 ≥ x.f2 then false else true) else false
theorem refS_eq (l : List S96) (h : ∀ i, i < l.length → ordC l i = true) (x : S96) : refS l x = refOkB l x := by
  unfold refS refOkB
  rw [first_last x.f3.f0 x.f3.f1 l h]
  by_cases c : (x.f3.f0 == 0 && (x.f3.f1 == 0)) = true
  · rw [if_pos c, if_pos c]
  · rw [if_neg c, if_neg c]
    by_cases c2 : 0 ≤ lastIx x.f3.f0 x.f3.f1 l l.length
    · rw [if_neg (show ¬ lastIx x.f3.f0 x.f3.f1 l l.length < 0 by omega), if_pos c2]
      by_cases c3 : (rd_T96 l (lastIx x.f3.f0 x.f3.f1 l l.length)).f0.toList = x.f0.toList
      · rw [if_pos c3, beq_iff_eq.2 c3, Bool.true_and]
        by_cases c4 : (rd_T96 l (lastIx x.f3.f0 x.f3.f1 l l.length)).f2 ≥ x.f2
        · rw [if_pos c4, decide_eq_false (by omega)]
        · rw [if_neg c4, decide_eq_true (by omega)]
      · rw [if_neg c3, beq_eq_false_iff_ne.2 c3, Bool.false_and]
    · rw [if_pos (show lastIx x.f3.f0 x.f3.f1 l l.length < 0 by omega), if_neg c2]
theorem impl_NameOk_l0 (s : ByteArray) (hs : s.size ≤ 140737488351232) : ∀ d i, i + d = s.size → Ev (fun k => impl_NameOk.l0 k s (i : Int)) (nameB s d i)
  | 0, i, hi => by
    refine Ev.step (fun k => rfl) ?_
    simp only [impl_NameOk.l0, if_neg (show ¬ (i : Int) < (s.size : Int) by omega), impl_in, Option.bind_some]
    exact Ev.now _
  | d + 1, i, hi => by
    refine Ev.step (fun k => rfl) ?_
    have ih := impl_NameOk_l0 s hs d (i + 1) (by omega)
    have hb := bt_range s (i : Int)
    simp only [impl_NameOk.l0, if_pos (show (i : Int) < (s.size : Int) by omega), if_pos (show (0 : Int) ≤ (i : Int) by omega), wr i (by omega), nameB, wi (n := bt s (i : Int)) (by omega), impl_in, Option.bind_some]
    cases inB (bt s (i : Int)) 97 122
    · exact Ev.now _
    · exact ih
theorem impl_NameOk_ev (s : ByteArray) (hs : s.size ≤ 140737488351232) : Ev (fun k => impl_NameOk.f k s) (nameB s s.size 0) := impl_NameOk_l0 s hs s.size 0 (by omega)
theorem impl_Tallies_l0 (l : List S90) (hl : l.length ≤ 140737488351232) (hs : ∀ x ∈ l, x.f0.size ≤ 140737488351232) : ∀ d i, i + d = l.length → Ev (fun k => impl_talliesOk.l0 k l l (l.length : Int) (i : Int)) (if allB (tallyP l) d i = true then decide ((l.length : Int) ≤ 120) else false)
  | 0, i, hi => by
    refine Ev.step (fun k => rfl) ?_
    simp only [impl_talliesOk.l0, if_neg (show ¬ (i : Int) < (l.length : Int) by omega), allB, if_true]
    exact Ev.now _
  | d + 1, i, hi => by
    refine Ev.step (fun k => rfl) ?_
    have ih := impl_Tallies_l0 l hl hs d (i + 1) (by omega)
    have hn := impl_NameOk_ev (l.getD i z90).f0 (mem_getD hs (by omega))
    simp only [impl_talliesOk.l0, if_pos (show (i : Int) < (l.length : Int) by omega), if_pos (show (0 : Int) ≤ (i : Int) by omega), rdI_Tally, impl_in, Option.bind_some, allB]
    refine Ev.bind hn ?_
    unfold tallyP
    by_cases c1 : nameB (l.getD i z90).f0 (l.getD i z90).f0.size 0 = true
    · simp only [if_pos c1]
      by_cases c2 : inB (l.getD i z90).f1 0 2 = true
      · simp only [if_pos c2]
        by_cases c3 : inB (l.getD i z90).f2 0 999999 = true
        · simp only [if_pos c3]
          by_cases c4 : 0 < i
          · simp only [if_pos (show (i : Int) > 0 by omega), if_pos c4, wm i c4 (by omega), if_pos (show (0 : Int) ≤ ((i - 1 : Nat) : Int) by omega), if_pos (show ((i - 1 : Nat) : Int) < (l.length : Int) by omega), rdI_Tally, wr i (by omega)]
            obtain ⟨r, hr, hc⟩ := impl_cmpTallies_ev (l.getD (i - 1) z90).f0 (l.getD (i - 1) z90).f1 (l.getD (i - 1) z90).f2 (l.getD i z90).f0 (l.getD i z90).f1 (l.getD i z90).f2
            refine Ev.bind hr ?_
            by_cases c5 : r ≥ 0
            · simp only [if_pos c5, if_neg (show ¬ ordT (l.getD (i - 1) z90).f0.toList (l.getD (i - 1) z90).f1 (l.getD i z90).f0.toList (l.getD i z90).f1 = true from fun e => by have := hc.2 e; omega), Bool.false_eq_true, if_false]; exact Ev.now _
            · simp only [if_neg c5, hc.1 (show r < 0 by omega), if_true]; exact ih
          · simp only [if_neg (show ¬ (i : Int) > 0 by omega), if_neg c4, if_true, wr i (by omega)]; exact ih
        · simp only [if_neg c3, Bool.false_eq_true, if_false]; exact Ev.now _
      · simp only [if_neg c2, Bool.false_eq_true, if_false]; exact Ev.now _
    · simp only [if_neg c1, Bool.false_eq_true, if_false]; exact Ev.now _
theorem impl_Tallies_ev (l : List S90) (hl : l.length ≤ 140737488351232) (hs : ∀ x ∈ l, x.f0.size ≤ 140737488351232) : Ev (fun k => impl_talliesOk.f k l) (tallyAll l) := impl_Tallies_l0 l hl hs l.length 0 (by omega)
theorem impl_Lives_l0 (w : List Int) (hw : w.length ≤ 140737488351232) (l : List S93) (hl : l.length ≤ 140737488351232) (hs : ∀ x ∈ l, x.f1.size ≤ 140737488351232 ∧ x.f2.size ≤ 140737488351232) : ∀ d i, i + d = l.length → Ev (fun k => impl_livesOk.l0 k l w l (l.length : Int) (i : Int)) (if allB (liveP (knowsB w) l) d i = true then decide ((l.length : Int) ≤ 120) else false)
  | 0, i, hi => by
    refine Ev.step (fun k => rfl) ?_
    simp only [impl_livesOk.l0, if_neg (show ¬ (i : Int) < (l.length : Int) by omega), allB, if_true]
    exact Ev.now _
  | d + 1, i, hi => by
    refine Ev.step (fun k => rfl) ?_
    have ih := impl_Lives_l0 w hw l hl hs d (i + 1) (by omega)
    have hx := mem_getD (z := z93) hs (show i < l.length by omega)
    have hn := impl_NameOk_ev (l.getD i z93).f1 hx.1
    have hn2 := impl_NameOk_ev (l.getD i z93).f2 hx.2
    have hk := impl_Knows_ev w (l.getD i z93).f4.f0 (l.getD i z93).f4.f1 hw
    simp only [impl_livesOk.l0, if_pos (show (i : Int) < (l.length : Int) by omega), if_pos (show (0 : Int) ≤ (i : Int) by omega), rdI_Live, impl_in, Option.bind_some, allB]
    unfold liveP
    have no : ∀ (m : Bool) (s t : ByteArray) (v r q : Int), Ev (fun k => impl_livesOk.j1 k l w (i : Int) l (l.length : Int) (i : Int) true m s t v r q) false := fun m s t v r q => by
      refine Ev.step (fun k => rfl) ?_
      simp only [impl_livesOk.j1, if_true]; exact Ev.now _
    have go : ∀ (m : Bool) (s t : ByteArray) (v : Int), Ev (fun k => impl_livesOk.j1 k l w (i : Int) l (l.length : Int) (i : Int) false m s t v (l.getD i z93).f4.f0 (l.getD i z93).f4.f1)
        (if (if ordL l i = true then allB (liveP (knowsB w) l) d (i + 1) else false) = true then decide ((l.length : Int) ≤ 120) else false) := fun m s t v => by
      refine Ev.step (fun k => rfl) ?_
      simp only [impl_livesOk.j1, Bool.false_eq_true, if_false, wr i (by omega)]
      unfold ordL
      by_cases c4 : 0 < i
      · simp only [if_pos (show (i : Int) > 0 by omega), if_pos c4, wm i c4 (by omega), if_pos (show (0 : Int) ≤ ((i - 1 : Nat) : Int) by omega), if_pos (show ((i - 1 : Nat) : Int) < (l.length : Int) by omega), rdI_Live]
        obtain ⟨r, hr, hc⟩ := impl_cmpDots_ev (l.getD (i - 1) z93).f4.f0 (l.getD (i - 1) z93).f4.f1 (l.getD i z93).f4.f0 (l.getD i z93).f4.f1
        refine Ev.bind hr ?_
        by_cases c5 : r ≥ 0
        · simp only [if_pos c5, if_neg (show ¬ beforeB (l.getD (i - 1) z93).f4.f0 (l.getD (i - 1) z93).f4.f1 (l.getD i z93).f4.f0 (l.getD i z93).f4.f1 = true from fun e => by have := hc.2 e; omega), Bool.false_eq_true, if_false]; exact Ev.now _
        · simp only [if_neg c5, hc.1 (show r < 0 by omega), if_true]; exact ih
      · simp only [if_neg (show ¬ (i : Int) > 0 by omega), if_neg c4, if_true]; exact ih
    refine Ev.bind hk ?_
    by_cases c1 : knowsB w (l.getD i z93).f4.f0 (l.getD i z93).f4.f1 = true
    · simp only [if_pos c1]
      refine Ev.bind hn ?_
      by_cases c2 : nameB (l.getD i z93).f1 (l.getD i z93).f1.size 0 = true
      · simp only [if_pos c2]
        refine Ev.bind hn2 ?_
        by_cases c3 : nameB (l.getD i z93).f2 (l.getD i z93).f2.size 0 = true
        · simp only [if_pos c3]
          by_cases c6 : inB (l.getD i z93).f3 0 999999 = true
          · simp only [if_pos c6]
            by_cases c7 : (l.getD i z93).f0 = true
            · simp only [if_pos c7]; exact go ..
            · simp only [if_neg c7]
              by_cases c8 : (l.getD i z93).f3 = 0
              · simp only [if_pos c8, c8, bne_self_eq_false]; exact go ..
              · simp only [if_neg c8, bne_iff_ne.2 c8, Bool.false_eq_true, if_false]; exact no ..
          · simp only [if_neg c6, Bool.false_eq_true, if_false]; exact no ..
        · simp only [if_neg c3, Bool.false_eq_true, if_false]; exact no ..
      · simp only [if_neg c2, Bool.false_eq_true, if_false]; exact no ..
    · simp only [if_neg c1, Bool.false_eq_true, if_false]; exact no ..
theorem impl_Lives_ev (w : List Int) (hw : w.length ≤ 140737488351232) (l : List S93) (hl : l.length ≤ 140737488351232) (hs : ∀ x ∈ l, x.f1.size ≤ 140737488351232 ∧ x.f2.size ≤ 140737488351232) : Ev (fun k => impl_livesOk.f k l w) (liveAll (knowsB w) l) := impl_Lives_l0 w hw l hl hs l.length 0 (by omega)
def cellP2 (q : Int → Int → Bool) (l : List S96) (i : Nat) : Bool :=
  if q (l.getD i z96).f1.f0 (l.getD i z96).f1.f1 = true then (if nameB (l.getD i z96).f0 (l.getD i z96).f0.size 0 = true then (if inB (l.getD i z96).f4 0 999999 = true then (if inB (l.getD i z96).f2 1 10000 = true then
    ordC l i else false) else false) else false) else false
def cellAll2 (q : Int → Int → Bool) (l : List S96) : Bool := if allB (cellP2 q l) l.length 0 = true then decide ((l.length : Int) ≤ 120) else false
theorem impl_Cells_l0 (w : List Int) (hw : w.length ≤ 140737488351232) (l : List S96) (hl : l.length ≤ 140737488351232) (hs : ∀ x ∈ l, x.f0.size ≤ 140737488351232) : ∀ d i, i + d = l.length → Ev (fun k => impl_cellsOk.l0 k l w l (l.length : Int) (i : Int)) (if allB (cellP2 (knowsB w) l) d i = true then decide ((l.length : Int) ≤ 120) else false)
  | 0, i, hi => by
    refine Ev.step (fun k => rfl) ?_
    simp only [impl_cellsOk.l0, if_neg (show ¬ (i : Int) < (l.length : Int) by omega), allB, if_true]
    exact Ev.now _
  | d + 1, i, hi => by
    refine Ev.step (fun k => rfl) ?_
    have ih := impl_Cells_l0 w hw l hl hs d (i + 1) (by omega)
    have hn := impl_NameOk_ev (l.getD i z96).f0 (mem_getD (z := z96) hs (show i < l.length by omega))
    have hk := impl_Knows_ev w (l.getD i z96).f1.f0 (l.getD i z96).f1.f1 hw
    simp only [impl_cellsOk.l0, if_pos (show (i : Int) < (l.length : Int) by omega), if_pos (show (0 : Int) ≤ (i : Int) by omega), rdI_Cell, impl_in, Option.bind_some, allB]
    unfold cellP2
    have no : ∀ (s : ByteArray) (a b t c d2 v : Int) (g : Bool), Ev (fun k => impl_cellsOk.j1 k l w (i : Int) l (l.length : Int) (i : Int) true s a b t c d2 v g) false := fun s a b t c d2 v g => by
      refine Ev.step (fun k => rfl) ?_
      simp only [impl_cellsOk.j1, if_true]; exact Ev.now _
    have go : ∀ (s : ByteArray) (t c d2 v : Int) (g : Bool), Ev (fun k => impl_cellsOk.j1 k l w (i : Int) l (l.length : Int) (i : Int) false s (l.getD i z96).f1.f0 (l.getD i z96).f1.f1 t c d2 v g)
        (if (if ordC l i = true then allB (cellP2 (knowsB w) l) d (i + 1) else false) = true then decide ((l.length : Int) ≤ 120) else false) := fun s t c d2 v g => by
      refine Ev.step (fun k => rfl) ?_
      simp only [impl_cellsOk.j1, Bool.false_eq_true, if_false, wr i (by omega)]
      unfold ordC
      by_cases c4 : 0 < i
      · simp only [if_pos (show (i : Int) > 0 by omega), if_pos c4, wm i c4 (by omega), if_pos (show (0 : Int) ≤ ((i - 1 : Nat) : Int) by omega), if_pos (show ((i - 1 : Nat) : Int) < (l.length : Int) by omega), rdI_Cell]
        obtain ⟨r, hr, hc⟩ := impl_cmpDots_ev (l.getD (i - 1) z96).f1.f0 (l.getD (i - 1) z96).f1.f1 (l.getD i z96).f1.f0 (l.getD i z96).f1.f1
        refine Ev.bind hr ?_
        by_cases c5 : r ≥ 0
        · simp only [if_pos c5, if_neg (show ¬ beforeB (l.getD (i - 1) z96).f1.f0 (l.getD (i - 1) z96).f1.f1 (l.getD i z96).f1.f0 (l.getD i z96).f1.f1 = true from fun e => by have := hc.2 e; omega), Bool.false_eq_true, if_false]; exact Ev.now _
        · simp only [if_neg c5, hc.1 (show r < 0 by omega), if_true]; exact ih
      · simp only [if_neg (show ¬ (i : Int) > 0 by omega), if_neg c4, if_true]; exact ih
    refine Ev.bind hk ?_
    by_cases c1 : knowsB w (l.getD i z96).f1.f0 (l.getD i z96).f1.f1 = true
    · simp only [if_pos c1]
      refine Ev.bind hn ?_
      by_cases c2 : nameB (l.getD i z96).f0 (l.getD i z96).f0.size 0 = true
      · simp only [if_pos c2]
        by_cases c3 : inB (l.getD i z96).f4 0 999999 = true
        · simp only [if_pos c3]
          by_cases c6 : inB (l.getD i z96).f2 1 10000 = true
          · simp only [if_pos c6, c6, Bool.not_true]; exact go ..
          · simp only [if_neg c6, Bool.eq_false_iff.2 c6, Bool.not_false, Bool.false_eq_true, if_false]; exact no ..
        · simp only [if_neg c3, Bool.false_eq_true, if_false]; exact no ..
      · simp only [if_neg c2, Bool.false_eq_true, if_false]; exact no ..
    · simp only [if_neg c1, Bool.false_eq_true, if_false]; exact no ..
theorem impl_Cells_ev (w : List Int) (hw : w.length ≤ 140737488351232) (l : List S96) (hl : l.length ≤ 140737488351232) (hs : ∀ x ∈ l, x.f0.size ≤ 140737488351232) : Ev (fun k => impl_cellsOk.f k l w) (cellAll2 (knowsB w) l) := impl_Cells_l0 w hw l hl hs l.length 0 (by omega)
def refD (a b : Int) : Bool := if (!(a == 0) || !(b == 0)) = true then dotB a b else true
theorem spec_Cells_l0 (l : List S96) (hl : l.length ≤ 140737488351232) (hs : ∀ x ∈ l, x.f0.size ≤ 140737488351232) : ∀ d i, i + d = l.length → Ev (fun k => spec_l06Cells.l0 k l (i : Int)) (if allB (cellP dotB refD l) d i = true then decide ((l.length : Int) ≤ 120) else false)
  | 0, i, hi => by
    refine Ev.step (fun k => rfl) ?_
    simp only [spec_l06Cells.l0, if_neg (show ¬ (i : Int) < (l.length : Int) by omega), allB, if_true]
    exact Ev.now _
  | d + 1, i, hi => by
    refine Ev.step (fun k => rfl) ?_
    have ih := spec_Cells_l0 l hl hs d (i + 1) (by omega)
    have hx := mem_getD (z := z96) hs (show i < l.length by omega)
    have hn := spec_NameOk_ev (l.getD i z96).f0 hx
    simp only [spec_l06Cells.l0, if_pos (show (i : Int) < (l.length : Int) by omega), if_pos (show (0 : Int) ≤ (i : Int) by omega), rdI_Cell, spec_DotOk_eq, spec_in, Option.bind_some, spec_before_eq, allB, wr i (by omega)]
    unfold cellP
    have go : Ev (fun k => if (i : Int) > 0 then (if 0 ≤ wrap64 ((i : Int) - 1) then (if wrap64 ((i : Int) - 1) < (l.length : Int) then (if beforeB (rd_T96 l (wrap64 ((i : Int) - 1))).f1.f0 (rd_T96 l (wrap64 ((i : Int) - 1))).f1.f1 (l.getD i z96).f1.f0 (l.getD i z96).f1.f1 = true then spec_l06Cells.l0 k l ((i + 1 : Nat) : Int) else some false) else none) else none) else spec_l06Cells.l0 k l ((i + 1 : Nat) : Int))
        (if (if ordC l i = true then allB (cellP dotB refD l) d (i + 1) else false) = true then decide ((l.length : Int) ≤ 120) else false) := by
      unfold ordC
      by_cases c4 : 0 < i
      · simp only [if_pos (show (i : Int) > 0 by omega), if_pos c4, wm i c4 (by omega), if_pos (show (0 : Int) ≤ ((i - 1 : Nat) : Int) by omega), if_pos (show ((i - 1 : Nat) : Int) < (l.length : Int) by omega), rdI_Cell]
        by_cases c5 : beforeB (l.getD (i - 1) z96).f1.f0 (l.getD (i - 1) z96).f1.f1 (l.getD i z96).f1.f0 (l.getD i z96).f1.f1 = true
        · simp only [if_pos c5]; exact ih
        · simp only [if_neg c5, Bool.false_eq_true, if_false]; exact Ev.now _
      · simp only [if_neg (show ¬ (i : Int) > 0 by omega), if_neg c4, if_true]; exact ih
    by_cases c1 : dotB (l.getD i z96).f1.f0 (l.getD i z96).f1.f1 = true
    · simp only [if_pos c1]
      refine Ev.bind hn ?_
      by_cases c2 : nameB (l.getD i z96).f0 (l.getD i z96).f0.size 0 = true
      · simp only [if_pos c2]
        by_cases c3 : inB (l.getD i z96).f2 1 10000 = true
        · simp only [if_pos c3]
          by_cases c6 : inB (l.getD i z96).f4 0 999999 = true
          · simp only [if_pos c6]
            unfold refD
            by_cases c7 : (!((l.getD i z96).f3.f0 == 0) || !((l.getD i z96).f3.f1 == 0)) = true
            · simp only [if_pos c7]
              by_cases c8 : dotB (l.getD i z96).f3.f0 (l.getD i z96).f3.f1 = true
              · simp only [if_pos c8]; exact go
              · simp only [if_neg c8, Bool.false_eq_true, if_false]; exact Ev.now _
            · simp only [if_neg c7, if_true]; exact go
          · simp only [if_neg c6, Bool.false_eq_true, if_false]; exact Ev.now _
        · simp only [if_neg c3, Bool.false_eq_true, if_false]; exact Ev.now _
      · simp only [if_neg c2, Bool.false_eq_true, if_false]; exact Ev.now _
    · simp only [if_neg c1, Bool.false_eq_true, if_false]; exact Ev.now _
theorem spec_Cells_ev (l : List S96) (hl : l.length ≤ 140737488351232) (hs : ∀ x ∈ l, x.f0.size ≤ 140737488351232) : Ev (fun k => spec_l06Cells.f k l) (cellAll dotB refD l) := spec_Cells_l0 l hl hs l.length 0 (by omega)
def stateB (w : List Int) (t : List S90) (l : List S93) (c : List S96) : Bool :=
  if knowB w = true then (if tallyAll t = true then (if liveAll (knowsB w) l = true then (if cellAll2 (knowsB w) c = true then c.all (refOkB c) else false) else false) else false) else false
theorem impl_StateOk_ev (w : List Int) (t : List S90) (l : List S93) (c : List S96) (hw : w.length ≤ 140737488351232) (ht : t.length ≤ 140737488351232) (hl : l.length ≤ 140737488351232) (hc : c.length ≤ 140737488351232)
    (st : ∀ x ∈ t, x.f0.size ≤ 140737488351232) (sl : ∀ x ∈ l, x.f1.size ≤ 140737488351232 ∧ x.f2.size ≤ 140737488351232) (sc : ∀ x ∈ c, x.f0.size ≤ 140737488351232) (hf : c.all cellWf = true) : Ev (fun k => impl_StateOk.f k w t l c) (stateB w t l c) := by
  unfold impl_StateOk.f stateB
  refine Ev.bind (impl_KnowOk_ev w hw) ?_
  by_cases c1 : knowB w = true
  · simp only [if_pos c1]
    refine Ev.bind (impl_Tallies_ev t ht st) ?_
    by_cases c2 : tallyAll t = true
    · simp only [if_pos c2]
      refine Ev.bind (impl_Lives_ev w hw l hl sl) ?_
      by_cases c3 : liveAll (knowsB w) l = true
      · simp only [if_pos c3]
        refine Ev.bind (impl_Cells_ev w hw c hc sc) ?_
        by_cases c4 : cellAll2 (knowsB w) c = true
        · simp only [if_pos c4, impl_refsOk.f, if_pos (show c.length ≤ 4611686018427387904 ∧ c.all cellWf = true from ⟨by omega, hf⟩), Option.bind_some]; exact Ev.now _
        · simp only [if_neg c4]; exact Ev.now _
      · simp only [if_neg c3]; exact Ev.now _
    · simp only [if_neg c2]; exact Ev.now _
  · simp only [if_neg c1]; exact Ev.now _
theorem knows_dot {w : List Int} {a b : Int} (h : knowsB w a b = true) : dotB a b = true := by
  unfold knowsB at h
  by_cases c1 : knowB w = true
  · by_cases c2 : dotB a b = true
    · exact c2
    · simp [c1, c2] at h
  · simp [c1] at h
theorem liveP_iff (q : Int → Int → Bool) (l : List S93) (i : Nat) : liveP q l i = true ↔ q (l.getD i z93).f4.f0 (l.getD i z93).f4.f1 = true ∧ liveP (fun _ _ => true) l i = true := by
  unfold liveP
  by_cases h : q (l.getD i z93).f4.f0 (l.getD i z93).f4.f1 = true <;> simp [h]
theorem cellP_iff (q p : Int → Int → Bool) (l : List S96) (i : Nat) : cellP q p l i = true ↔ q (l.getD i z96).f1.f0 (l.getD i z96).f1.f1 = true ∧ p (l.getD i z96).f3.f0 (l.getD i z96).f3.f1 = true ∧ cellP (fun _ _ => true) (fun _ _ => true) l i = true := by
  unfold cellP
  generalize ordC l i = o
  generalize l.getD i z96 = x
  by_cases h : q x.f1.f0 x.f1.f1 = true <;> by_cases h2 : p x.f3.f0 x.f3.f1 = true <;> simp [h, h2]
theorem cellP2_iff (q : Int → Int → Bool) (l : List S96) (i : Nat) : cellP2 q l i = true ↔ q (l.getD i z96).f1.f0 (l.getD i z96).f1.f1 = true ∧ cellP (fun _ _ => true) (fun _ _ => true) l i = true := by
  unfold cellP2 cellP
  generalize ordC l i = o
  generalize l.getD i z96 = x
  by_cases h : q x.f1.f0 x.f1.f1 = true <;> by_cases h2 : inB x.f2 1 10000 = true <;> by_cases h3 : inB x.f4 0 999999 = true <;> simp [h, h2, h3]
theorem cellR_ord {l : List S96} {i : Nat} (h : cellP (fun _ _ => true) (fun _ _ => true) l i = true) : ordC l i = true := by
  unfold cellP at h
  simp at h
  exact h.2.2.2
theorem allB_len {p : Nat → Bool} {n : Nat} {b : Bool} : (if allB p n 0 = true then b else false) = true ↔ (∀ i, i < n → p i = true) ∧ b = true := by
  by_cases h : allB p n 0 = true
  · rw [if_pos h]
    exact ⟨fun hb => ⟨fun i hi => allB_true.1 h i (by omega) (by omega), hb⟩, fun hb => hb.2⟩
  · rw [if_neg h]
    exact ⟨fun hb => absurd hb (by decide), fun hb => absurd (allB_true.2 fun j _ hj => hb.1 j (by omega)) h⟩
theorem all_getD {l : List S96} {p : S96 → Bool} : l.all p = true ↔ ∀ i, i < l.length → p (l.getD i z96) = true := by
  rw [List.all_eq_true]
  constructor
  · intro h i hi; rw [getD_get l i _ hi]; exact h _ (List.getElem_mem _)
  · intro h x hx
    obtain ⟨i, hi, rfl⟩ := List.getElem_of_mem hx
    have := h i hi
    rw [getD_get l i _ hi] at this; exact this
def knowsL (w : List Int) (l : List S93) (i : Nat) : Bool := knowsB w (l.getD i z93).f4.f0 (l.getD i z93).f4.f1
def knowsR (w : List Int) (l : List S96) (i : Nat) : Bool := if knowsB w (l.getD i z96).f1.f0 (l.getD i z96).f1.f1 = true then refS l (l.getD i z96) else false
theorem ref_dot {w : List Int} {c : List S96} (hk : ∀ i, i < c.length → knowsB w (c.getD i z96).f1.f0 (c.getD i z96).f1.f1 = true) {x : S96} (h : refOkB c x = true) : refD x.f3.f0 x.f3.f1 = true := by
  unfold refD
  by_cases c1 : (!(x.f3.f0 == 0) || !(x.f3.f1 == 0)) = true
  · rw [if_pos c1]
    unfold refOkB at h
    rw [if_neg (by intro e; simp only [Bool.and_eq_true] at e; simp [e.1, e.2] at c1)] at h
    rcases lastIx_cases x.f3.f0 x.f3.f1 c c.length with ⟨h1, h2⟩ | ⟨j, h1, h2, h3⟩
    · rw [h1] at h; simp at h
    · have := hk j h1
      rw [isDot_true] at h3
      rw [h3.1, h3.2] at this
      exact knows_dot this
  · rw [if_neg c1]
theorem specV_eq (w : List Int) (t : List S90) (l : List S93) (c : List S96) :
    (if knowB w = true then (if tallyAll t = true then (if liveAll dotB l = true then (if cellAll dotB refD c = true then (if allB (knowsL w l) l.length 0 = true then allB (knowsR w c) c.length 0 else false) else false) else false) else false) else false) = stateB w t l c := by
  unfold stateB
  by_cases c1 : knowB w = true
  rotate_left
  · rw [if_neg c1, if_neg c1]
  by_cases c2 : tallyAll t = true
  rotate_left
  · rw [if_pos c1, if_pos c1, if_neg c2, if_neg c2]
  rw [if_pos c1, if_pos c1, if_pos c2, if_pos c2, Bool.eq_iff_iff]
  have e1 : liveAll dotB l = true ↔ (∀ i, i < l.length → liveP dotB l i = true) ∧ decide ((l.length : Int) ≤ 120) = true := allB_len
  have e2 : cellAll dotB refD c = true ↔ (∀ i, i < c.length → cellP dotB refD c i = true) ∧ decide ((c.length : Int) ≤ 120) = true := allB_len
  have e3 : liveAll (knowsB w) l = true ↔ (∀ i, i < l.length → liveP (knowsB w) l i = true) ∧ decide ((l.length : Int) ≤ 120) = true := allB_len
  have e4 : cellAll2 (knowsB w) c = true ↔ (∀ i, i < c.length → cellP2 (knowsB w) c i = true) ∧ decide ((c.length : Int) ≤ 120) = true := allB_len
  have e5 : allB (knowsL w l) l.length 0 = true ↔ ∀ i, i < l.length → knowsL w l i = true := allB_true.trans ⟨fun h i hi => h i (by omega) (by omega), fun h i _ hi => h i (by omega)⟩
  have e6 : allB (knowsR w c) c.length 0 = true ↔ ∀ i, i < c.length → knowsR w c i = true := allB_true.trans ⟨fun h i hi => h i (by omega) (by omega), fun h i _ hi => h i (by omega)⟩
  constructor
  · intro h
    by_cases d1 : liveAll dotB l = true
    rotate_left
    · rw [if_neg d1] at h; cases h
    by_cases d2 : cellAll dotB refD c = true
    rotate_left
    · rw [if_pos d1, if_neg d2] at h; cases h
    by_cases d3 : allB (knowsL w l) l.length 0 = true
    rotate_left
    · rw [if_pos d1, if_pos d2, if_neg d3] at h; cases h
    rw [if_pos d1, if_pos d2, if_pos d3, e6] at h
    rw [e1] at d1; rw [e2] at d2; rw [e5] at d3
    have f3 : liveAll (knowsB w) l = true := e3.2 ⟨fun i hi => (liveP_iff _ _ _).2 ⟨d3 i hi, ((liveP_iff _ _ _).1 (d1.1 i hi)).2⟩, d1.2⟩
    have kn : ∀ i, i < c.length → knowsB w (c.getD i z96).f1.f0 (c.getD i z96).f1.f1 = true ∧ refS c (c.getD i z96) = true := fun i hi => by
      have := h i hi
      unfold knowsR at this
      by_cases k : knowsB w (c.getD i z96).f1.f0 (c.getD i z96).f1.f1 = true
      · rw [if_pos k] at this; exact ⟨k, this⟩
      · rw [if_neg k] at this; cases this
    have f4 : cellAll2 (knowsB w) c = true := e4.2 ⟨fun i hi => (cellP2_iff _ _ _).2 ⟨(kn i hi).1, ((cellP_iff _ _ _ _).1 (d2.1 i hi)).2.2⟩, d2.2⟩
    have or : ∀ i, i < c.length → ordC c i = true := fun i hi => cellR_ord ((cellP_iff _ _ _ _).1 (d2.1 i hi)).2.2
    rw [if_pos f3, if_pos f4, all_getD]
    exact fun i hi => by rw [← refS_eq c or]; exact (kn i hi).2
  · intro h
    by_cases d1 : liveAll (knowsB w) l = true
    rotate_left
    · rw [if_neg d1] at h; cases h
    by_cases d2 : cellAll2 (knowsB w) c = true
    rotate_left
    · rw [if_pos d1, if_neg d2] at h; cases h
    rw [if_pos d1, if_pos d2, all_getD] at h
    rw [e3] at d1; rw [e4] at d2
    have kn : ∀ i, i < c.length → knowsB w (c.getD i z96).f1.f0 (c.getD i z96).f1.f1 = true := fun i hi => ((cellP2_iff _ _ _).1 (d2.1 i hi)).1
    have or : ∀ i, i < c.length → ordC c i = true := fun i hi => cellR_ord ((cellP2_iff _ _ _).1 (d2.1 i hi)).2
    have f1 : liveAll dotB l = true := e1.2 ⟨fun i hi => (liveP_iff _ _ _).2 ⟨knows_dot ((liveP_iff _ _ _).1 (d1.1 i hi)).1, ((liveP_iff _ _ _).1 (d1.1 i hi)).2⟩, d1.2⟩
    have f2 : cellAll dotB refD c = true := e2.2 ⟨fun i hi => (cellP_iff _ _ _ _).2 ⟨knows_dot (kn i hi), ref_dot kn (h i hi), ((cellP2_iff _ _ _).1 (d2.1 i hi)).2⟩, d2.2⟩
    have f3 : allB (knowsL w l) l.length 0 = true := e5.2 fun i hi => ((liveP_iff _ _ _).1 (d1.1 i hi)).1
    rw [if_pos f1, if_pos f2, if_pos f3, e6]
    exact fun i hi => by
      unfold knowsR
      rw [if_pos (kn i hi), refS_eq c or]; exact h i hi
theorem spec_StateOk_l1 (w : List Int) (t : List S90) (l : List S93) (c : List S96) (hw : w.length ≤ 140737488351232) (hc : c.length ≤ 140737488351232) : ∀ d i, i + d = c.length → Ev (fun k => spec_StateOk.l1 k (i : Int) w t l c) (allB (knowsR w c) d i)
  | 0, i, hi => by
    refine Ev.step (fun k => rfl) ?_
    simp only [spec_StateOk.l1, if_neg (show ¬ (i : Int) < (c.length : Int) by omega), allB]
    exact Ev.now _
  | d + 1, i, hi => by
    refine Ev.step (fun k => rfl) ?_
    have ih := spec_StateOk_l1 w t l c hw hc d (i + 1) (by omega)
    simp only [spec_StateOk.l1, if_pos (show (i : Int) < (c.length : Int) by omega), if_pos (show (0 : Int) ≤ (i : Int) by omega), rdI_Cell, wr i (by omega), allB]
    refine Ev.bind (spec_Knows_ev w _ _ hw) ?_
    unfold knowsR
    by_cases c1 : knowsB w (c.getD i z96).f1.f0 (c.getD i z96).f1.f1 = true
    · simp only [if_pos c1]
      unfold refS
      by_cases c2 : ((c.getD i z96).f3.f0 == 0 && ((c.getD i z96).f3.f1 == 0)) = true
      · simp only [if_pos c2, if_true]; exact ih
      · simp only [if_neg c2]
        refine Ev.bind (spec_CellAt_ev w t l c _ _ hc) ?_
        have hlt : cellIx (c.getD i z96).f3.f0 (c.getD i z96).f3.f1 c 0 < (c.length : Int) := by
          have h1 := cellIx_cases (c.getD i z96).f3.f0 (c.getD i z96).f3.f1 c c.length 0 (by omega)
          rw [List.drop_zero] at h1
          rcases h1 with ⟨e1, _⟩ | ⟨j, _, hj, e1, _⟩
          · have e1' : cellIx (c.getD i z96).f3.f0 (c.getD i z96).f3.f1 c 0 = -1 := e1
            omega
          · have e1' : cellIx (c.getD i z96).f3.f0 (c.getD i z96).f3.f1 c 0 = (j : Int) := e1
            omega
        by_cases c3 : cellIx (c.getD i z96).f3.f0 (c.getD i z96).f3.f1 c 0 < 0
        · simp only [if_pos c3, Bool.false_eq_true, if_false]; exact Ev.now _
        · simp only [if_neg c3, if_pos (show 0 ≤ cellIx (c.getD i z96).f3.f0 (c.getD i z96).f3.f1 c 0 by omega), if_pos hlt]
          by_cases c4 : (rd_T96 c (cellIx (c.getD i z96).f3.f0 (c.getD i z96).f3.f1 c 0)).f0.toList = (c.getD i z96).f0.toList
          · simp only [if_pos c4]
            by_cases c5 : (rd_T96 c (cellIx (c.getD i z96).f3.f0 (c.getD i z96).f3.f1 c 0)).f2 ≥ (c.getD i z96).f2
            · simp only [if_pos c5, Bool.false_eq_true, if_false]; exact Ev.now _
            · simp only [if_neg c5, if_true]; exact ih
          · simp only [if_neg c4, Bool.false_eq_true, if_false]; exact Ev.now _
    · simp only [if_neg c1, Bool.false_eq_true, if_false]; exact Ev.now _
theorem spec_StateOk_l0 (w : List Int) (t : List S90) (l : List S93) (c : List S96) (hw : w.length ≤ 140737488351232) (hl : l.length ≤ 140737488351232) (hc : c.length ≤ 140737488351232) : ∀ d i, i + d = l.length → Ev (fun k => spec_StateOk.l0 k (i : Int) w t l c) (if allB (knowsL w l) d i = true then allB (knowsR w c) c.length 0 else false)
  | 0, i, hi => by
    refine Ev.step (fun k => rfl) ?_
    simp only [spec_StateOk.l0, if_neg (show ¬ (i : Int) < (l.length : Int) by omega), allB, if_true]
    exact spec_StateOk_l1 w t l c hw hc c.length 0 (by omega)
  | d + 1, i, hi => by
    refine Ev.step (fun k => rfl) ?_
    have ih := spec_StateOk_l0 w t l c hw hl hc d (i + 1) (by omega)
    simp only [spec_StateOk.l0, if_pos (show (i : Int) < (l.length : Int) by omega), if_pos (show (0 : Int) ≤ (i : Int) by omega), rdI_Live, wr i (by omega), allB]
    refine Ev.bind (spec_Knows_ev w _ _ hw) ?_
    unfold knowsL
    by_cases c1 : knowsB w (l.getD i z93).f4.f0 (l.getD i z93).f4.f1 = true
    · simp only [if_pos c1]; exact ih
    · simp only [if_neg c1, Bool.false_eq_true, if_false]; exact Ev.now _
theorem spec_StateOk_ev (w : List Int) (t : List S90) (l : List S93) (c : List S96) (hw : w.length ≤ 140737488351232) (ht : t.length ≤ 140737488351232) (hl : l.length ≤ 140737488351232) (hc : c.length ≤ 140737488351232)
    (st : ∀ x ∈ t, x.f0.size ≤ 140737488351232) (sl : ∀ x ∈ l, x.f1.size ≤ 140737488351232 ∧ x.f2.size ≤ 140737488351232) (sc : ∀ x ∈ c, x.f0.size ≤ 140737488351232) : Ev (fun k => spec_StateOk.f k w t l c) (stateB w t l c) := by
  rw [← specV_eq]
  unfold spec_StateOk.f
  have no : Ev (fun k => spec_StateOk.j0 k true w t l c) false := by
    refine Ev.step (fun k => rfl) ?_
    simp only [spec_StateOk.j0, if_true]; exact Ev.now _
  refine Ev.bind (spec_KnowOk_ev w hw) ?_
  by_cases c1 : knowB w = true
  · simp only [if_pos c1]
    refine Ev.bind (spec_Tallies_ev t ht st) ?_
    by_cases c2 : tallyAll t = true
    · simp only [if_pos c2]
      refine Ev.bind (spec_Lives_ev l hl sl) ?_
      by_cases c3 : liveAll dotB l = true
      · simp only [if_pos c3]
        refine Ev.bind (spec_Cells_ev c hc sc) ?_
        by_cases c4 : cellAll dotB refD c = true
        · simp only [if_pos c4, c4, Bool.not_true]
          refine Ev.step (fun k => rfl) ?_
          simp only [spec_StateOk.j0, Bool.false_eq_true, if_false]
          exact spec_StateOk_l0 w t l c hw hl hc l.length 0 (by omega)
        · simp only [if_neg c4, Bool.eq_false_iff.2 c4, Bool.not_false]; exact no
      · simp only [if_neg c3]; exact no
    · simp only [if_neg c2]; exact no
  · simp only [if_neg c1]; exact no
def nm (s : ByteArray) : Bool := nameB s s.size 0
def valuedB (kind : Int) : Bool := if kind = 1 then true else if kind = 4 then true else (kind == 6)
def valB (kind val : Int) : Bool := if val = 0 then true else if valuedB kind = true then inB val 0 999999 else false
def wordsB (kind : Int) (obj key : ByteArray) (val : Int) : Bool :=
  if inB kind 1 7 = true then (if nm obj = true then (if inB kind 2 5 = true then (if nm key = true then valB kind val else false) else (if key.toList = [] then valB kind val else false)) else false) else false
theorem nm_empty {s : ByteArray} (h : s.toList = []) : nm s = false := by
  have hz : s.size = 0 := by have := len_toL s; rw [h] at this; simpa using this.symm
  unfold nm
  rw [hz, nameB, hz]; rfl
def refB (kind : Int) (knew : List Int) (r s : Int) : Bool := if kind = 7 then knowsB knew r s else if kind = 6 then (if (r == 0 && (s == 0)) = true then true else knowsB knew r s) else (r == 0 && (s == 0))
def actB (rep seq time : Int) (knew : List Int) (kind : Int) (obj key : ByteArray) (val r s : Int) : Bool :=
  if dotB rep seq = true then (if knowB knew = true then (if rd knew rep = seq - 1 then (if inB time 1 10000 = true then (if wordsB kind obj key val = true then refB kind knew r s else false) else false) else false) else false) else false
theorem dotB_true {r s : Int} (h : dotB r s = true) : (0 ≤ r ∧ r ≤ 2) ∧ 1 ≤ s ∧ s ≤ 1000 := by
  unfold dotB at h
  by_cases c : inB r 0 2 = true
  · rw [if_pos c] at h; exact ⟨inB_true.1 c, inB_true.1 h⟩
  · simp [c] at h
theorem know_len {l : List Int} (h : knowB l = true) : (l.length : Int) = 3 := by
  unfold knowB at h
  simp only [Bool.and_eq_true, beq_iff_eq] at h
  exact h.2
theorem gCellIx_eq (a b : Int) : ∀ (l : List S96) (i : Int), gCellIx a b l i = cellIx a b l i
  | [], _ => rfl
  | x :: l, i => by unfold gCellIx cellIx; rw [gCellIx_eq a b l (i + 1)]
theorem cellIx_in (a b : Int) : ∀ (l : List S96) (i : Int), cellIx a b l i = -1 ∨ (i ≤ cellIx a b l i ∧ cellIx a b l i < i + l.length)
  | [], i => .inl rfl
  | x :: l, i => by
    unfold cellIx
    split
    · right; simp only [List.length_cons]; omega
    · rcases cellIx_in a b l (i + 1) with h | h
      · exact .inl h
      · right; simp only [List.length_cons]; omega
theorem bef_not {r s a b : Int} (h : ¬ (a = r ∧ b = s)) : beforeB r s a b = !beforeB a b r s := by
  unfold beforeB
  by_cases h1 : r < a
  · simp [h1, show ¬ a < r by omega, show ¬ a = r by omega]
  · by_cases h2 : a < r
    · simp [h1, h2, show ¬ r = a by omega]
    · have h3 : r = a := by omega
      subst h3
      have h4 : ¬ b = s := fun e => h ⟨rfl, e⟩
      simp only [Int.lt_irrefl, if_false, if_true]
      by_cases h5 : s < b
      · simp [h5, show ¬ b < s by omega]
      · simp [h5, show b < s by omega]
theorem mem_ix {α : Type} {l : List α} {x z : α} (h : x ∈ l) : ∃ i, i < l.length ∧ l.getD i z = x := by
  obtain ⟨i, hi, e⟩ := List.mem_iff_getElem.1 h
  exact ⟨i, hi, by rw [List.getD_eq_getElem?_getD, List.getElem?_eq_getElem hi]; exact e⟩
theorem live_knows {q : Int → Int → Bool} {l : List S93} (h : liveAll q l = true) : (∀ y ∈ l, q y.f4.f0 y.f4.f1 = true) ∧ l.length ≤ 120 := by
  unfold liveAll at h
  split at h
  · rename_i h1
    rw [allB_true] at h1
    refine ⟨fun y hy => ?_, by have := of_decide_eq_true h; omega⟩
    obtain ⟨i, hi, rfl⟩ := mem_ix (z := z93) hy
    exact ((liveP_iff q l i).1 (h1 i (by omega) (by omega))).1
  · cases h
theorem cell_knows {q : Int → Int → Bool} {l : List S96} (h : cellAll2 q l = true) : (∀ y ∈ l, q y.f1.f0 y.f1.f1 = true) ∧ l.length ≤ 120 := by
  unfold cellAll2 at h
  split at h
  · rename_i h1
    rw [allB_true] at h1
    refine ⟨fun y hy => ?_, by have := of_decide_eq_true h; omega⟩
    obtain ⟨i, hi, rfl⟩ := mem_ix (z := z96) hy
    exact ((cellP2_iff q l i).1 (h1 i (by omega) (by omega))).1
  · cases h
theorem tal_len {l : List S90} (h : tallyAll l = true) : l.length ≤ 120 := by
  unfold tallyAll at h
  split at h
  · have := of_decide_eq_true h; omega
  · cases h
theorem stateB_parts {w : List Int} {t : List S90} {l : List S93} {c : List S96} (h : stateB w t l c = true) : knowB w = true ∧ tallyAll t = true ∧ liveAll (knowsB w) l = true ∧ cellAll2 (knowsB w) c = true := by
  unfold stateB at h
  split at h
  · split at h
    · split at h
      · split at h
        · exact ⟨‹_›, ‹_›, ‹_›, ‹_›⟩
        · cases h
      · cases h
    · cases h
  · cases h
theorem actB_parts {a b c : Int} {l : List Int} {d : Int} {s t : ByteArray} {e f g : Int} (h : actB a b c l d s t e f g = true) : dotB a b = true ∧ knowB l = true ∧ wordsB d s t e = true ∧ refB d l f g = true := by
  unfold actB at h
  split at h
  · split at h
    · split at h
      · split at h
        · split at h
          · exact ⟨‹_›, ‹_›, ‹_›, h⟩
          · cases h
        · cases h
      · cases h
    · cases h
  · cases h
theorem knowB_len {l : List Int} (h : knowB l = true) : l.length = 3 := by
  unfold knowB at h
  simp only [Bool.and_eq_true, beq_iff_eq] at h
  omega
theorem val_ok {d : Int} {s t : ByteArray} {v : Int} (h : wordsB d s t v = true) : Int.tmod (wrap64 (0 + v)) 1000000 = v := by
  have hv : valB d v = true := by
    unfold wordsB at h
    split at h
    · split at h
      · split at h
        · split at h
          · exact h
          · cases h
        · split at h
          · exact h
          · cases h
      · cases h
    · cases h
  have hr : 0 ≤ v ∧ v ≤ 999999 := by
    unfold valB at hv
    split at hv
    · omega
    · split at hv
      · exact inB_true.1 hv
      · cases hv
  rw [Int.zero_add, show wrap64 v = v by unfold wrap64; omega]
  exact Int.tmod_eq_of_lt hr.1 (by omega)
theorem spec_copy (a : List Int) (b : List S90) (c : List S93) (d : List S96) (ha : a.length ≤ 1048576) (hb : b.length ≤ 1048576) (hc : c.length ≤ 1048576) (hd : d.length ≤ 1048576) : spec_l06Copy.f a b c d = some (a, b, c, d) := by
  unfold spec_l06Copy.f
  simp only [Option.bind_some, List.length_nil, Nat.zero_add, List.nil_append, if_pos (show a.length < 17592186044416 by omega), if_pos (show b.length < 4398046511104 by omega), if_pos (show c.length < 2199023255552 by omega), if_pos (show d.length < 1954687338268 by omega)]
theorem impl_copy (a : List Int) (b : List S90) (c : List S93) (d : List S96) (ha : a.length ≤ 1048576) (hb : b.length ≤ 1048576) (hc : c.length ≤ 1048576) (hd : d.length ≤ 1048576) : impl_copyState.f a b c d = some (a, b, c, d) := by
  unfold impl_copyState.f impl_copyInts.f
  simp only [Option.bind_some, List.length_nil, Nat.zero_add, List.nil_append, if_pos (show a.length < 17592186044416 by omega), if_pos (show b.length < 4398046511104 by omega), if_pos (show c.length < 2199023255552 by omega), if_pos (show d.length < 1954687338268 by omega)]
def FitB (l1 : List S90) (l2 : List S93) (l3 : List S96) : Prop := (∀ x ∈ l1, x.f0.size ≤ 140737488351232) ∧ (∀ x ∈ l2, x.f1.size ≤ 140737488351232 ∧ x.f2.size ≤ 140737488351232) ∧ (∀ x ∈ l3, x.f0.size ≤ 140737488351232 ∧ cellWf x = true)
theorem insBy_all {α : Type} {p : α → Bool} {x : α} {C : α → Prop} (hx : C x) : ∀ {l : List α}, (∀ y ∈ l, C y) → ∀ y ∈ insBy p x l, C y
  | [], _, y, hy => by simp only [insBy, List.mem_singleton] at hy; exact hy ▸ hx
  | z :: l, h, y, hy => by
    unfold insBy at hy
    split at hy
    · rcases List.mem_cons.1 hy with rfl | hy
      · exact hx
      · exact h y hy
    · rcases List.mem_cons.1 hy with rfl | hy
      · exact h _ List.mem_cons_self
      · exact insBy_all hx (fun q hq => h q (List.mem_cons_of_mem _ hq)) y hy
theorem talV_all (o : ByteArray) (rp vl : Int) (ho : o.size ≤ 140737488351232) : ∀ (l : List S90), (∀ x ∈ l, x.f0.size ≤ 140737488351232) → ∀ x ∈ talV o rp vl l, x.f0.size ≤ 140737488351232
  | [], _, x, hx => by simp only [talV, List.mem_singleton] at hx; exact hx ▸ ho
  | y :: l, h, x, hx => by
    have hl : ∀ q ∈ l, q.f0.size ≤ 140737488351232 := fun q hq => h q (List.mem_cons_of_mem _ hq)
    unfold talV at hx
    split at hx
    · rcases List.mem_cons.1 hx with rfl | hx
      · exact h _ List.mem_cons_self
      · exact talV_all o rp vl ho l hl x hx
    · split at hx
      · rcases List.mem_cons.1 hx with rfl | hx
        · exact ho
        · exact hl x hx
      · rcases List.mem_cons.1 hx with rfl | hx
        · exact ho
        · exact h x hx
theorem wf_small {x : Int} (h : 0 ≤ x ∧ x ≤ 1000) : (Lit.int .i64 x).wf = true := by
  simp [Lit.wf, IntKind.min, IntKind.max, IntKind.signed, IntKind.bits]
  omega
theorem dot_wf {a b : Int} (h : dotB a b = true) : (Lit.int .i64 a).wf = true ∧ (Lit.int .i64 b).wf = true := by
  have h := dotB_true h
  exact ⟨wf_small (by omega), wf_small (by omega)⟩
theorem ref_wf {kw : List Int} {a b : Int} (h : refB 6 kw a b = true) : (Lit.int .i64 a).wf = true ∧ (Lit.int .i64 b).wf = true := by
  unfold refB at h
  rw [if_neg (by decide), if_pos rfl] at h
  by_cases z : (a == 0 && (b == 0)) = true
  · simp only [Bool.and_eq_true, beq_iff_eq] at z
    exact ⟨wf_small (by omega), wf_small (by omega)⟩
  · rw [if_neg z] at h
    exact dot_wf (knows_dot h)
theorem know_up {l : List Int} {r s : Int} (hk : knowB l = true) (hd : dotB r s = true) (hn : ¬ knowsB l r s = true) : knowB (l.set r.toNat s) = true ∧ l.sum < (l.set r.toNat s).sum := by
  have h3 := knowB_len hk
  obtain ⟨x, y, z, rfl⟩ : ∃ x y z, l = [x, y, z] := by
    match l, h3 with
    | [x, y, z], _ => exact ⟨x, y, z, rfl⟩
  unfold knowsB at hn
  rw [if_pos hk, if_pos hd] at hn
  simp only [decide_eq_true_eq] at hn
  have hd := dotB_true hd
  simp [knowB, inB] at hk
  rcases (show r = 0 ∨ r = 1 ∨ r = 2 by omega) with rfl | rfl | rfl
  · have hn : ¬ s ≤ x := hn
    simp [knowB, inB]; omega
  · have hn : ¬ s ≤ y := hn
    simp [knowB, inB]; omega
  · have hn : ¬ s ≤ z := hn
    simp [knowB, inB]; omega
theorem ev_of {α : Type} {o : Option α} {X : α} (h : o = some X) : Ev (fun _ => o) X := by rw [h]; exact Ev.now _
theorem talV_len (o : ByteArray) (rp vl : Int) : ∀ (l : List S90), (talV o rp vl l).length ≤ l.length + 1
  | [] => by simp [talV]
  | y :: l => by
    have := talV_len o rp vl l
    unfold talV
    split
    · simp; omega
    · split <;> simp
theorem rd_mem {l : List S96} {i : Int} (h0 : 0 ≤ i) (h1 : i < (l.length : Int)) : rd_T96 l i ∈ l := by
  unfold rd_T96
  rw [List.getD_eq_getElem?_getD, List.getElem?_eq_getElem (by omega)]
  exact List.getElem_mem _
theorem do_ev (l0 : List Int) (l1 : List S90) (l2 : List S93) (l3 : List S96) (a0 a1 a2 : Int) (kw : List Int) (a4 : Int) (a5 a6 : ByteArray) (a7 a8 a9 : Int) (hS : stateB l0 l1 l2 l3 = true) (hA : actB a0 a1 a2 kw a4 a5 a6 a7 a8 a9 = true) (hK : ¬ knowsB l0 a0 a1 = true) (hC : a4 = 7 → 0 ≤ cellIx a8 a9 l3 0 ∧ cellIx a8 a9 l3 0 < (l3.length : Int)) (hF : FitB l1 l2 l3) (h5 : a5.size ≤ 140737488351232) (h6 : a6.size ≤ 140737488351232) :
    ∃ p0 p1 p2 p3, Ev (fun k => spec_l07Do.f k l0 l1 l2 l3 a0 a1 a2 kw a4 a5 a6 a7 a8 a9) (p0, p1, p2, p3) ∧ (∀ X, impl_DoAct.e (l0, l1, l2, l3) p0 p1 p2 p3 = some X → Ev (fun k => impl_DoAct.g k (l0, l1, l2, l3) l1 l2 l3 a0 a1 a2 kw a4 a5 a6 a7 a8 a9 (cellIx a8 a9 l3 0)) X) ∧ p0 = l0.set a0.toNat a1 ∧ p1.length ≤ 121 ∧ p2.length ≤ 121 ∧ p3.length ≤ 121 ∧ FitB p1 p2 p3 := by
  obtain ⟨s0, s1, s2, s3⟩ := stateB_parts hS
  obtain ⟨q0, q1, q2, q3⟩ := actB_parts hA
  obtain ⟨hd, _⟩ := dotB_true q0
  have w0 := knowB_len s0
  have w1 := knowB_len q1
  have t1 := tal_len s1
  obtain ⟨v2, t2⟩ := live_knows s2
  obtain ⟨v3, t3⟩ := cell_knows s3
  have n2 : ∀ y ∈ l2, ¬ (y.f4.f0 = a0 ∧ y.f4.f1 = a1) := fun y hy e => by have := v2 y hy; rw [e.1, e.2] at this; exact hK this
  have n3 : ∀ y ∈ l3, ¬ (y.f1.f0 = a0 ∧ y.f1.f1 = a1) := fun y hy e => by have := v3 y hy; rw [e.1, e.2] at this; exact hK this
  have p1 : (0 : Int) ≤ a0 := by omega
  have p2 : a0 < (l0.length : Int) := by omega
  have hk : kw.length ≤ 140737488351232 := by omega
  simp only [spec_l07Do.f, impl_DoAct.g, if_pos p1, if_pos p2, Option.bind_some]
  by_cases k1 : a4 = 1
  · have ht := impl_withTally_ev l1 (by omega) a5 a0 a7
    have hl := talV_len a5 a0 a7 l1
    have hm := talV_all a5 a0 a7 h5 l1 hF.1
    rw [talV_eq a5 a0 a7 (val_ok q2) l1 (sortT_all s1)] at ht hl hm
    simp only [if_pos k1]
    exact ⟨_, _, _, _, Ev.bind (spec_l07Tally_ev l1 (by omega) a5 a0 a7) (Ev.now _), fun X hX => Ev.bind ht (ev_of hX), rfl, by omega, by omega, by omega, hm, hF.2⟩
  by_cases k2 : a4 = 2
  · have ht := impl_withLive_ev l2 (by omega) false a5 a6 0 a0 a1
    rw [insBy_congr (p := notL a0 a1) (q := befL a0 a1) (fun y hy => (bef_not (n2 y hy)).symm)] at ht
    simp only [if_neg k1, if_pos k2]
    exact ⟨_, _, _, _, Ev.bind (spec_l07Live_ev l2 (by omega) false a5 a6 0 a0 a1) (Ev.now _), fun X hX => Ev.bind ht (ev_of hX), rfl, by omega, by rw [insBy_len]; omega, by omega, hF.1, insBy_all ⟨h5, h6⟩ hF.2.1, hF.2.2⟩
  by_cases k3 : a4 = 3
  · have hl := List.length_filter_le (keepB false a5 a6 kw) l2
    simp only [if_neg k1, if_neg k2, if_pos k3]
    exact ⟨_, _, _, _, Ev.bind (spec_l07Clear_ev l2 (by omega) false a5 a6 kw hk) (Ev.now _), fun X hX => Ev.bind (impl_withoutKnown_ev l2 (by omega) false a0 a1 a2 kw hk a4 a5 a6 a7 a8 a9) (ev_of hX), rfl, by omega, by omega, by omega, hF.1, fun y hy => hF.2.1 y (List.mem_filter.1 hy).1, hF.2.2⟩
  by_cases k4 : a4 = 4
  · have hl := List.length_filter_le (keepB true a5 a6 kw) l2
    have ht := impl_withLive_ev (l2.filter (keepB true a5 a6 kw)) (by omega) true a5 a6 a7 a0 a1
    rw [insBy_congr (p := notL a0 a1) (q := befL a0 a1) (fun y hy => (bef_not (n2 y (List.mem_filter.1 hy).1)).symm)] at ht
    simp only [if_neg k1, if_neg k2, if_neg k3, if_pos k4]
    exact ⟨_, _, _, _, Ev.bind (spec_l07Clear_ev l2 (by omega) true a5 a6 kw hk) (Ev.bind (spec_l07Live_ev _ (by omega) true a5 a6 a7 a0 a1) (Ev.now _)), fun X hX => Ev.bind (impl_withoutKnown_ev l2 (by omega) true a0 a1 a2 kw hk a4 a5 a6 a7 a8 a9) (Ev.bind ht (ev_of hX)), rfl, by omega, by rw [insBy_len]; omega, by omega, hF.1, insBy_all ⟨h5, h6⟩ (fun y hy => hF.2.1 y (List.mem_filter.1 hy).1), hF.2.2⟩
  by_cases k5 : a4 = 5
  · have hl := List.length_filter_le (keepB true a5 a6 kw) l2
    simp only [if_neg k1, if_neg k2, if_neg k3, if_neg k4, if_pos k5]
    exact ⟨_, _, _, _, Ev.bind (spec_l07Clear_ev l2 (by omega) true a5 a6 kw hk) (Ev.now _), fun X hX => Ev.bind (impl_withoutKnown_ev l2 (by omega) true a0 a1 a2 kw hk a4 a5 a6 a7 a8 a9) (ev_of hX), rfl, by omega, by omega, by omega, hF.1, fun y hy => hF.2.1 y (List.mem_filter.1 hy).1, hF.2.2⟩
  by_cases k6 : a4 = 6
  · have ht := impl_withCell_ev l3 (by omega) a5 a0 a1 a2 a8 a9 a7 false
    rw [insBy_congr (p := notC a0 a1) (q := befC a0 a1) (fun y hy => (bef_not (n3 y hy)).symm)] at ht
    simp only [if_neg k1, if_neg k2, if_neg k3, if_neg k4, if_neg k5, if_pos k6]
    exact ⟨_, _, _, _, Ev.bind (spec_l07Cell_ev l3 (by omega) a5 a0 a1 a2 a8 a9 a7 false) (Ev.now _), fun X hX => Ev.bind ht (ev_of hX), rfl, by omega, by omega, by rw [insBy_len]; omega, hF.1, hF.2.1, insBy_all ⟨h5, by have d1 := dot_wf q0; have d2 := ref_wf (k6 ▸ q3); simp only [cellWf, d1.1, d1.2, d2.1, d2.2, Bool.and_self]⟩ hF.2.2⟩
  by_cases k7 : a4 = 7
  · obtain ⟨c1, c2⟩ := hC k7
    simp only [if_neg k1, if_neg k2, if_neg k3, if_neg k4, if_neg k5, if_neg k6, if_pos k7, if_pos c1, if_pos c2]
    exact ⟨_, _, _, _, Ev.bind (spec_CellAt_ev _ l1 l2 l3 a8 a9 (by omega)) (by simp only [if_pos c1, if_pos c2]; exact Ev.now _), fun X hX => ev_of hX, rfl, by omega, by omega, by rw [List.length_set]; omega, hF.1, hF.2.1, fun y hy => by
      rcases List.mem_or_eq_of_mem_set hy with hy | rfl
      · exact hF.2.2 y hy
      · have h := hF.2.2 _ (rd_mem c1 c2)
        exact ⟨h.1, h.2⟩⟩
  · simp only [if_neg k1, if_neg k2, if_neg k3, if_neg k4, if_neg k5, if_neg k6, if_neg k7]
    exact ⟨_, _, _, _, Ev.now _, fun X hX => ev_of hX, rfl, by omega, by omega, by omega, hF⟩
theorem spec_l05Keyed_eq (kind : Int) : spec_l05Keyed.f kind = some (inB kind 2 5) := by simp [spec_l05Keyed.f, spec_in]
theorem spec_l05Valued_eq (kind : Int) : spec_l05Valued.f kind = some (valuedB kind) := by
  unfold spec_l05Valued.f valuedB
  split
  · rfl
  · split <;> rfl
theorem spec_l05Plain_j0 (kind val : Int) : Ev (fun k => spec_l05Plain.j0 k kind val false) (valB kind val) := by
  refine Ev.step (fun k => rfl) ?_
  simp only [spec_l05Plain.j0, Bool.false_eq_true, if_false, spec_l05Valued_eq, Option.bind_some, spec_in, valB]
  by_cases c : val = 0
  · simp only [if_pos c]; exact Ev.now _
  · simp only [if_neg c]
    by_cases c2 : valuedB kind = true
    · simp only [if_pos c2]; exact Ev.now _
    · simp only [if_neg c2]; exact Ev.now _
theorem spec_l05Plain_no (kind val : Int) : Ev (fun k => spec_l05Plain.j0 k kind val true) false := by
  refine Ev.step (fun k => rfl) ?_
  simp only [spec_l05Plain.j0, if_true]; exact Ev.now _
theorem spec_l05Plain_ev (kind : Int) (obj key : ByteArray) (val : Int) (ho : obj.size ≤ 140737488351232) (hk : key.size ≤ 140737488351232) : Ev (fun k => spec_l05Plain.f k kind obj key val) (wordsB kind obj key val) := by
  unfold spec_l05Plain.f wordsB
  simp only [spec_in, spec_l05Keyed_eq, Option.bind_some]
  by_cases c1 : inB kind 1 7 = true
  · simp only [if_pos c1]
    refine Ev.bind (spec_NameOk_ev obj ho) ?_
    show Ev _ (if nm obj = true then _ else _)
    by_cases c2 : nm obj = true
    · have c2' : nameB obj obj.size 0 = true := c2
      simp only [if_pos c2, if_pos c2']
      by_cases c3 : inB kind 2 5 = true
      · simp only [if_pos c3]
        refine Ev.bind (spec_NameOk_ev key hk) ?_
        show Ev _ (if nm key = true then _ else _)
        by_cases c4 : nm key = true
        · have c4' : nameB key key.size 0 = true := c4
          simp only [if_pos c4, if_pos c4']; exact spec_l05Plain_j0 kind val
        · have c4' : ¬ nameB key key.size 0 = true := c4
          simp only [if_neg c4, if_neg c4']; exact spec_l05Plain_no kind val
      · simp only [if_neg c3]
        by_cases c4 : key.toList = []
        · simp only [if_pos c4, c4, bne_self_eq_false]; exact spec_l05Plain_j0 kind val
        · simp only [if_neg c4, bne_iff_ne.2 c4]; exact spec_l05Plain_no kind val
    · have c2' : ¬ nameB obj obj.size 0 = true := c2
      simp only [if_neg c2, if_neg c2']; exact spec_l05Plain_no kind val
  · simp only [if_neg c1]; exact spec_l05Plain_no kind val
theorem spec_ActOk_no (a b c : Int) (l : List Int) (d : Int) (s t : ByteArray) (e f g : Int) : Ev (fun k => spec_ActOk.j0 k true a b c l d s t e f g) false := by
  refine Ev.step (fun k => rfl) ?_
  simp only [spec_ActOk.j0, if_true]; exact Ev.now _
theorem spec_ActOk_j0 (a b c : Int) (l : List Int) (d : Int) (s t : ByteArray) (e f g : Int) (hl : l.length ≤ 140737488351232) : Ev (fun k => spec_ActOk.j0 k false a b c l d s t e f g) (refB d l f g) := by
  refine Ev.step (fun k => rfl) ?_
  simp only [spec_ActOk.j0, Bool.false_eq_true, if_false, refB]
  by_cases c1 : d = 7
  · simp only [if_pos c1]; exact Ev.bind (spec_Knows_ev l f g hl) (Ev.now _)
  · simp only [if_neg c1]
    by_cases c2 : d = 6
    · simp only [if_pos c2]
      by_cases c3 : (f == 0 && (g == 0)) = true
      · simp only [if_pos c3]; exact Ev.now _
      · simp only [if_neg c3]; exact Ev.bind (spec_Knows_ev l f g hl) (Ev.now _)
    · simp only [if_neg c2]; exact Ev.now _
theorem spec_ActOk_ev (a b c : Int) (l : List Int) (d : Int) (s t : ByteArray) (e f g : Int) (hl : l.length ≤ 140737488351232) (hs : s.size ≤ 140737488351232) (ht : t.size ≤ 140737488351232) : Ev (fun k => spec_ActOk.f k a b c l d s t e f g) (actB a b c l d s t e f g) := by
  unfold spec_ActOk.f actB
  simp only [spec_DotOk_eq, spec_in, Option.bind_some]
  by_cases c1 : dotB a b = true
  · have h1 := dotB_true c1
    simp only [if_pos c1]
    refine Ev.bind (spec_KnowOk_ev l hl) ?_
    by_cases c2 : knowB l = true
    · have h2 := know_len c2
      simp only [if_pos c2, if_pos h1.1.1, if_pos (show a < (l.length : Int) by omega), wi (n := b - 1) (by omega)]
      by_cases c3 : rd l a = b - 1
      · simp only [if_pos c3]
        by_cases c4 : inB c 1 10000 = true
        · simp only [if_pos c4]
          refine Ev.bind (spec_l05Plain_ev d s t e hs ht) ?_
          by_cases c5 : wordsB d s t e = true
          · simp only [if_pos c5, c5, Bool.not_true]; exact spec_ActOk_j0 a b c l d s t e f g hl
          · simp only [if_neg c5, Bool.eq_false_iff.2 c5, Bool.not_false]; exact spec_ActOk_no ..
        · simp only [if_neg c4]; exact spec_ActOk_no ..
      · simp only [if_neg c3]; exact spec_ActOk_no ..
    · simp only [if_neg c2]; exact spec_ActOk_no ..
  · simp only [if_neg c1]; exact spec_ActOk_no ..
theorem impl_hasKey_eq (kind : Int) : impl_hasKey.f kind = some (inB kind 2 5) := by simp [impl_hasKey.f, impl_in]
theorem impl_hasVal_eq (kind : Int) : impl_hasVal.f kind = some (valuedB kind) := by
  unfold impl_hasVal.f valuedB
  split
  · rfl
  · split <;> rfl
theorem impl_val_ev (kind val : Int) : Ev (fun _ => if val = 0 then some true else (if valuedB kind = true then some (inB val 0 999999) else some false)) (valB kind val) := by
  unfold valB
  by_cases c : val = 0
  · simp only [if_pos c]; exact Ev.now _
  · simp only [if_neg c]
    by_cases c2 : valuedB kind = true
    · simp only [if_pos c2]; exact Ev.now _
    · simp only [if_neg c2]; exact Ev.now _
theorem impl_wordsOk_ev (kind : Int) (obj key : ByteArray) (val : Int) (ho : obj.size ≤ 140737488351232) (hk : key.size ≤ 140737488351232) : Ev (fun k => impl_wordsOk.f k kind obj key val) (wordsB kind obj key val) := by
  unfold impl_wordsOk.f wordsB
  simp only [impl_in, Option.bind_some]
  by_cases c1 : inB kind 1 7 = true
  · simp only [if_pos c1]
    refine Ev.bind (impl_NameOk_ev obj ho) ?_
    show Ev _ (if nm obj = true then _ else _)
    refine Ev.step (fun k => rfl) ?_
    by_cases c2 : nm obj = true
    · have c2' : nameB obj obj.size 0 = true := c2
      simp only [impl_wordsOk.j0, c2', Bool.not_true, Bool.false_eq_true, if_false, if_pos c2, impl_hasKey_eq, impl_hasVal_eq, impl_in, Option.bind_some]
      by_cases c4 : key.toList = []
      · have e := nm_empty c4
        simp only [if_pos c4, e, Bool.false_eq_true, if_false]
        by_cases c3 : inB kind 2 5 = true
        · simp only [if_pos c3]
          refine Ev.bind (impl_NameOk_ev key hk) ?_
          have e' : nameB key key.size 0 = false := e
          simp only [e', Bool.false_eq_true, if_false]; exact Ev.now _
        · simp only [if_neg c3]; exact impl_val_ev kind val
      · simp only [if_neg c4]
        refine Ev.bind (impl_NameOk_ev key hk) ?_
        by_cases c5 : nm key = true
        · have c5' : nameB key key.size 0 = true := c5
          simp only [if_pos c5', if_pos c5]
          by_cases c3 : inB kind 2 5 = true
          · simp only [if_pos c3]; exact impl_val_ev kind val
          · simp only [if_neg c3]; exact Ev.now _
        · have c5' : ¬ nameB key key.size 0 = true := c5
          simp only [if_neg c5', if_neg c5, ite_self]; exact Ev.now _
    · have c2' : nameB obj obj.size 0 = false := Bool.eq_false_iff.2 c2
      simp only [impl_wordsOk.j0, c2', Bool.not_false, if_true, if_neg c2]; exact Ev.now _
  · simp only [if_neg c1]
    refine Ev.step (fun k => rfl) ?_
    simp only [impl_wordsOk.j0, if_true]; exact Ev.now _
theorem impl_ActOk_no (a b c : Int) (l : List Int) (d : Int) (s t : ByteArray) (e f g : Int) : Ev (fun k => impl_ActOk.j0 k true a b c l d s t e f g) false := by
  refine Ev.step (fun k => rfl) ?_
  simp only [impl_ActOk.j0, if_true]; exact Ev.now _
theorem impl_ActOk_j0 (a b c : Int) (l : List Int) (d : Int) (s t : ByteArray) (e f g : Int) (hl : l.length ≤ 140737488351232) (hs : s.size ≤ 140737488351232) (ht : t.size ≤ 140737488351232) : Ev (fun k => impl_ActOk.j0 k false a b c l d s t e f g) (if wordsB d s t e = true then refB d l f g else false) := by
  have W := impl_wordsOk_ev d s t e hs ht
  have K := impl_Knows_ev l f g hl
  refine Ev.step (fun k => rfl) ?_
  simp only [impl_ActOk.j0, Bool.false_eq_true, if_false, refB]
  by_cases c1 : d = 7
  · simp only [if_pos c1]
    refine Ev.bind K ?_
    cases knowsB l f g
    · simp only [Bool.false_eq_true, if_false, ite_self]; exact Ev.now _
    · simp only [if_true]
      refine Ev.bind W ?_
      cases wordsB d s t e <;> exact Ev.now _
  · simp only [if_neg c1]
    by_cases c2 : d = 6
    · simp only [if_pos c2]
      cases (f == 0 && (g == 0))
      · simp only [Bool.false_eq_true, if_false]
        refine Ev.bind K ?_
        cases knowsB l f g
        · simp only [Bool.false_eq_true, if_false, ite_self]; exact Ev.now _
        · simp only [if_true]
          refine Ev.bind W ?_
          cases wordsB d s t e <;> exact Ev.now _
      · simp only [if_true]
        refine Ev.bind W ?_
        cases wordsB d s t e <;> exact Ev.now _
    · simp only [if_neg c2]
      cases (f == 0 && (g == 0))
      · simp only [Bool.false_eq_true, if_false, ite_self]; exact Ev.now _
      · simp only [if_true]
        refine Ev.bind W ?_
        cases wordsB d s t e <;> exact Ev.now _
theorem impl_ActOk_ev (a b c : Int) (l : List Int) (d : Int) (s t : ByteArray) (e f g : Int) (hl : l.length ≤ 140737488351232) (hs : s.size ≤ 140737488351232) (ht : t.size ≤ 140737488351232) : Ev (fun k => impl_ActOk.f k a b c l d s t e f g) (actB a b c l d s t e f g) := by
  unfold impl_ActOk.f actB
  simp only [impl_DotOk_eq, impl_in, Option.bind_some]
  by_cases c1 : dotB a b = true
  · have h1 := dotB_true c1
    simp only [if_pos c1]
    refine Ev.bind (impl_KnowOk_ev l hl) ?_
    by_cases c2 : knowB l = true
    · have h2 := know_len c2
      simp only [if_pos c2, if_pos h1.1.1, if_pos (show a < (l.length : Int) by omega), wi (n := b - 1) (by omega)]
      by_cases c3 : rd l a = b - 1
      · simp only [if_pos c3]
        by_cases c4 : inB c 1 10000 = true
        · simp only [if_pos c4, c4, Bool.not_true]; exact impl_ActOk_j0 a b c l d s t e f g hl hs ht
        · simp only [if_neg c4, Bool.eq_false_iff.2 c4, Bool.not_false]; exact impl_ActOk_no ..
      · simp only [if_neg c3]; exact impl_ActOk_no ..
    · simp only [if_neg c2]; exact impl_ActOk_no ..
  · simp only [if_neg c1]; exact impl_ActOk_no ..
theorem know3 {l : List Int} (h : knowB l = true) : ∃ x y z, l = [x, y, z] ∧ (0 ≤ x ∧ x ≤ 1000) ∧ (0 ≤ y ∧ y ≤ 1000) ∧ (0 ≤ z ∧ z ≤ 1000) := by
  unfold knowB at h
  simp only [Bool.and_eq_true, beq_iff_eq] at h
  obtain ⟨h1, h2⟩ := h
  match l, h2 with
  | [x, y, z], _ =>
    simp [inB_true] at h1
    exact ⟨x, y, z, rfl, h1⟩
  | [], h => simp at h
  | [_], h => simp at h
  | [_, _], h => simp at h
  | _ :: _ :: _ :: _ :: _, h => simp at h; omega
theorem rd0 (x y z : Int) : rd [x, y, z] 0 = x := by simp [rd]
theorem rd1 (x y z : Int) : rd [x, y, z] 1 = y := by simp [rd]
theorem rd2 (x y z : Int) : rd [x, y, z] 2 = z := by simp [rd]
theorem w1 : wrap64 (0 + 1) = 1 := by rw [wi (by omega)]; rfl
theorem w2 : wrap64 (1 + 1) = 2 := by rw [wi (by omega)]; rfl
theorem w3 : wrap64 (2 + 1) = 3 := by rw [wi (by omega)]; rfl
theorem len3 (x y z : Int) : (([x, y, z] : List Int).length : Int) = 3 := by simp
def knowInB (a b : List Int) : Bool :=
  if knowB a = true then (if knowB b = true then (if rd a 0 > rd b 0 then false else if rd a 1 > rd b 1 then false else if rd a 2 > rd b 2 then false else true) else false) else false
theorem spec_KnowIn_ev (a b : List Int) (ha : a.length ≤ 140737488351232) (hb : b.length ≤ 140737488351232) : Ev (fun k => spec_KnowIn.f k a b) (knowInB a b) := by
  unfold spec_KnowIn.f knowInB
  refine Ev.bind (spec_KnowOk_ev a ha) ?_
  by_cases ka : knowB a = true
  · simp only [if_pos ka]
    refine Ev.bind (spec_KnowOk_ev b hb) ?_
    refine Ev.step (fun k => rfl) ?_
    by_cases kb : knowB b = true
    · simp only [spec_KnowIn.j0, kb, Bool.not_true, Bool.false_eq_true, if_false, if_true]
      obtain ⟨x, y, z, rfl, -, -, -⟩ := know3 ka
      obtain ⟨u, v, w, rfl, -, -, -⟩ := know3 kb
      simp only [rd0, rd1, rd2]
      refine Ev.step (fun k => rfl) ?_
      simp only [spec_KnowIn.l0, len3, rd0, w1, if_pos (show (0 : Int) < 3 by omega), if_pos (show (0 : Int) ≤ 0 by omega)]
      by_cases c0 : x > u
      · simp only [if_pos c0]; exact Ev.now _
      simp only [if_neg c0]
      refine Ev.step (fun k => rfl) ?_
      simp only [spec_KnowIn.l0, len3, rd1, w2, if_pos (show (1 : Int) < 3 by omega), if_pos (show (0 : Int) ≤ 1 by omega)]
      by_cases c1 : y > v
      · simp only [if_pos c1]; exact Ev.now _
      simp only [if_neg c1]
      refine Ev.step (fun k => rfl) ?_
      simp only [spec_KnowIn.l0, len3, rd2, w3, if_pos (show (2 : Int) < 3 by omega), if_pos (show (0 : Int) ≤ 2 by omega)]
      by_cases c2 : z > w
      · simp only [if_pos c2]; exact Ev.now _
      simp only [if_neg c2]
      refine Ev.step (fun k => rfl) ?_
      simp only [spec_KnowIn.l0, len3, if_neg (show ¬ (3 : Int) < 3 by omega)]
      exact Ev.now _
    · simp only [spec_KnowIn.j0, Bool.eq_false_iff.2 kb, Bool.not_false, if_true, Bool.false_eq_true, if_false]
      exact Ev.now _
  · simp only [if_neg ka]
    refine Ev.step (fun k => rfl) ?_
    simp only [spec_KnowIn.j0, if_true]
    exact Ev.now _
theorem impl_KnowIn_ev (a b : List Int) (ha : a.length ≤ 140737488351232) (hb : b.length ≤ 140737488351232) : Ev (fun k => impl_KnowIn.f k a b) (knowInB a b) := by
  unfold impl_KnowIn.f knowInB
  refine Ev.bind (impl_KnowOk_ev a ha) ?_
  by_cases ka : knowB a = true
  · simp only [if_pos ka]
    refine Ev.bind (impl_KnowOk_ev b hb) ?_
    refine Ev.step (fun k => rfl) ?_
    by_cases kb : knowB b = true
    · simp only [impl_KnowIn.j0, kb, Bool.not_true, Bool.false_eq_true, if_false, if_true]
      obtain ⟨x, y, z, rfl, -, -, -⟩ := know3 ka
      obtain ⟨u, v, w, rfl, -, -, -⟩ := know3 kb
      simp only [rd0, rd1, rd2]
      refine Ev.step (fun k => rfl) ?_
      simp only [impl_KnowIn.l0, len3, rd0, w1, if_pos (show (0 : Int) < 3 by omega), if_pos (show (0 : Int) ≤ 0 by omega)]
      by_cases c0 : x > u
      · simp only [if_pos c0]; exact Ev.now _
      simp only [if_neg c0]
      refine Ev.step (fun k => rfl) ?_
      simp only [impl_KnowIn.l0, len3, rd1, w2, if_pos (show (1 : Int) < 3 by omega), if_pos (show (0 : Int) ≤ 1 by omega)]
      by_cases c1 : y > v
      · simp only [if_pos c1]; exact Ev.now _
      simp only [if_neg c1]
      refine Ev.step (fun k => rfl) ?_
      simp only [impl_KnowIn.l0, len3, rd2, w3, if_pos (show (2 : Int) < 3 by omega), if_pos (show (0 : Int) ≤ 2 by omega)]
      by_cases c2 : z > w
      · simp only [if_pos c2]; exact Ev.now _
      simp only [if_neg c2]
      refine Ev.step (fun k => rfl) ?_
      simp only [impl_KnowIn.l0, len3, if_neg (show ¬ (3 : Int) < 3 by omega)]
      exact Ev.now _
    · simp only [impl_KnowIn.j0, Bool.eq_false_iff.2 kb, Bool.not_false, if_true, Bool.false_eq_true, if_false]
      exact Ev.now _
  · simp only [if_neg ka]
    refine Ev.step (fun k => rfl) ?_
    simp only [impl_KnowIn.j0, if_true]
    exact Ev.now _
theorem e_ev (l0 : List Int) (l1 : List S90) (l2 : List S93) (l3 : List S96) (p0 : List Int) (p1 : List S90) (p2 : List S93) (p3 : List S96) : ∃ v0 v1 v2 v3 c, (if (120 : Int) < (p1.length : Int) then some (l0, l1, l2, l3, (4 : Int)) else (if (120 : Int) < (p2.length : Int) then some (l0, l1, l2, l3, 4) else (if (120 : Int) < (p3.length : Int) then some (l0, l1, l2, l3, 4) else some (p0, p1, p2, p3, 0)))) = some (v0, v1, v2, v3, c) ∧ impl_DoAct.e (l0, l1, l2, l3) p0 p1 p2 p3 = some (v0, v1, v2, v3, c) ∧ ((c = 4 ∧ (v0, v1, v2, v3) = (l0, l1, l2, l3)) ∨ (v0, v1, v2, v3) = (p0, p1, p2, p3)) := by
  unfold impl_DoAct.e impl_tooMany.f
  by_cases c1 : (120 : Int) < (p1.length : Int)
  · exact ⟨l0, l1, l2, l3, 4, by rw [if_pos c1], by rw [if_pos (show (p1.length : Int) > 120 from c1)]; rfl, .inl ⟨rfl, rfl⟩⟩
  · rw [if_neg c1, if_neg (show ¬ (p1.length : Int) > 120 from c1)]
    by_cases c2 : (120 : Int) < (p2.length : Int)
    · exact ⟨l0, l1, l2, l3, 4, by rw [if_pos c2], by rw [if_pos (show (p2.length : Int) > 120 from c2)]; rfl, .inl ⟨rfl, rfl⟩⟩
    · rw [if_neg c2, if_neg (show ¬ (p2.length : Int) > 120 from c2)]
      by_cases c3 : (120 : Int) < (p3.length : Int)
      · exact ⟨l0, l1, l2, l3, 4, by rw [if_pos c3], by rw [decide_eq_true (show (p3.length : Int) > 120 from c3)]; rfl, .inl ⟨rfl, rfl⟩⟩
      · exact ⟨p0, p1, p2, p3, 0, by rw [if_neg c3], by rw [decide_eq_false (show ¬ (p3.length : Int) > 120 from c3)]; rfl, .inr rfl⟩
def refI (k : Nat) (l0 : List Int) (l1 : List S90) (l2 : List S93) (l3 : List S96) (a0 a1 a2 : Int) (kw : List Int) (a4 : Int) (a5 a6 : ByteArray) (a7 a8 a9 i : Int) : Option (List Int × List S90 × List S93 × List S96 × Int) :=
  (if (a8 == 0 && (a9 == 0)) = true then impl_DoAct.g k (l0, l1, l2, l3) l1 l2 l3 a0 a1 a2 kw a4 a5 a6 a7 a8 a9 i else (if i < 0 then some (l0, l1, l2, l3, 3) else (if 0 ≤ i then (if i < (l3.length : Int) then (if ((rd_T96 l3 i).f0).toList = a5.toList then (if a4 = 6 then (if a2 ≤ (rd_T96 l3 i).f2 then some (l0, l1, l2, l3, 3) else impl_DoAct.g k (l0, l1, l2, l3) l1 l2 l3 a0 a1 a2 kw a4 a5 a6 a7 a8 a9 i) else impl_DoAct.g k (l0, l1, l2, l3) l1 l2 l3 a0 a1 a2 kw a4 a5 a6 a7 a8 a9 i) else some (l0, l1, l2, l3, 3)) else none) else none)))
theorem ref_ev (l0 : List Int) (l1 : List S90) (l2 : List S93) (l3 : List S96) (a0 a1 a2 : Int) (kw : List Int) (a4 : Int) (a5 a6 : ByteArray) (a7 a8 a9 : Int) (hl : l3.length ≤ 1000000) (hr : refB a4 kw a8 a9 = true) :
    (Ev (fun k => spec_l07Ref.f k l0 l1 l2 l3 a0 a1 a2 kw a4 a5 a6 a7 a8 a9) true ∧ (a4 = 7 → 0 ≤ cellIx a8 a9 l3 0 ∧ cellIx a8 a9 l3 0 < (l3.length : Int)) ∧ ∀ X, Ev (fun k => impl_DoAct.g k (l0, l1, l2, l3) l1 l2 l3 a0 a1 a2 kw a4 a5 a6 a7 a8 a9 (cellIx a8 a9 l3 0)) X → Ev (fun k => refI k l0 l1 l2 l3 a0 a1 a2 kw a4 a5 a6 a7 a8 a9 (cellIx a8 a9 l3 0)) X) ∨ (Ev (fun k => spec_l07Ref.f k l0 l1 l2 l3 a0 a1 a2 kw a4 a5 a6 a7 a8 a9) false ∧ Ev (fun k => refI k l0 l1 l2 l3 a0 a1 a2 kw a4 a5 a6 a7 a8 a9 (cellIx a8 a9 l3 0)) (l0, l1, l2, l3, 3)) := by
  have hci := spec_CellAt_ev l0 l1 l2 l3 a8 a9 (by omega)
  have hin := cellIx_in a8 a9 l3 0
  have hz : knowsB kw a8 a9 = true → ¬ (a8 == 0 && (a9 == 0)) = true := fun h e => by
    have := (dotB_true (knows_dot h)).2.1
    simp only [Bool.and_eq_true, beq_iff_eq] at e
    omega
  generalize cellIx a8 a9 l3 0 = ci at hci hin ⊢
  simp only [spec_l07Ref.f, refI]
  by_cases k7 : a4 = 7
  · have hk : knowsB kw a8 a9 = true := by unfold refB at hr; rwa [if_pos k7] at hr
    have hz := hz hk
    simp only [if_pos k7, if_neg hz]
    by_cases c : ci < 0
    · right
      simp only [if_pos c]
      exact ⟨Ev.bind hci (by simp only [if_neg (show ¬ ci ≥ 0 by omega)]; exact Ev.now _), Ev.now _⟩
    · have c1 : 0 ≤ ci := by omega
      have c2 : ci < (l3.length : Int) := by rcases hin with h | h <;> omega
      simp only [if_neg c, if_pos c1, if_pos c2, if_neg (show ¬ a4 = 6 by omega)]
      by_cases o : (rd_T96 l3 ci).f0.toList = a5.toList
      · left
        simp only [if_pos o]
        exact ⟨Ev.bind hci (by simp only [if_pos (show ci ≥ 0 from c1), if_pos c1, if_pos c2, if_pos o]; exact Ev.now _), fun _ => ⟨c1, c2⟩, fun X h => h⟩
      · right
        simp only [if_neg o]
        exact ⟨Ev.bind hci (by simp only [if_pos (show ci ≥ 0 from c1), if_pos c1, if_pos c2, if_neg o]; exact Ev.now _), Ev.now _⟩
  · by_cases k6 : a4 = 6
    · by_cases z : (a8 == 0 && (a9 == 0)) = true
      · left
        simp only [if_neg k7, if_pos k6, if_pos z]
        exact ⟨Ev.now _, fun h => absurd h k7, fun X h => h⟩
      · simp only [if_neg k7, if_pos k6, if_neg z]
        by_cases c : ci < 0
        · right
          simp only [if_pos c]
          exact ⟨Ev.bind hci (by simp only [if_neg (show ¬ ci ≥ 0 by omega)]; exact Ev.now _), Ev.now _⟩
        · have c1 : 0 ≤ ci := by omega
          have c2 : ci < (l3.length : Int) := by rcases hin with h | h <;> omega
          simp only [if_neg c, if_pos c1, if_pos c2]
          by_cases o : (rd_T96 l3 ci).f0.toList = a5.toList
          · simp only [if_pos o]
            by_cases tm : a2 ≤ (rd_T96 l3 ci).f2
            · right
              simp only [if_pos tm]
              exact ⟨Ev.bind hci (by simp only [if_pos (show ci ≥ 0 from c1), if_pos c1, if_pos c2, if_pos o, decide_eq_false (show ¬ (rd_T96 l3 ci).f2 < a2 by omega)]; exact Ev.now _), Ev.now _⟩
            · left
              simp only [if_neg tm]
              exact ⟨Ev.bind hci (by simp only [if_pos (show ci ≥ 0 from c1), if_pos c1, if_pos c2, if_pos o, decide_eq_true (show (rd_T96 l3 ci).f2 < a2 by omega)]; exact Ev.now _), fun h => absurd h k7, fun X h => h⟩
          · right
            simp only [if_neg o]
            exact ⟨Ev.bind hci (by simp only [if_pos (show ci ≥ 0 from c1), if_pos c1, if_pos c2, if_neg o]; exact Ev.now _), Ev.now _⟩
    · have z : (a8 == 0 && (a9 == 0)) = true := by unfold refB at hr; rwa [if_neg k7, if_neg k6] at hr
      left
      simp only [if_neg k7, if_neg k6, if_pos z]
      exact ⟨Ev.now _, fun h => absurd h k7, fun X h => h⟩
theorem doAct_ev (l0 : List Int) (l1 : List S90) (l2 : List S93) (l3 : List S96) (a0 a1 a2 : Int) (kw : List Int) (a4 : Int) (a5 a6 : ByteArray) (a7 a8 a9 : Int) (h0 : l0.length ≤ 1048576) (h1 : l1.length ≤ 1048576) (h2 : l2.length ≤ 1048576) (h3 : l3.length ≤ 1048576) (hk : kw.length ≤ 1048576) (h5 : a5.size ≤ 140737488351232) (h6 : a6.size ≤ 140737488351232) (hF : FitB l1 l2 l3) :
    ∃ v0 v1 v2 v3 c, Ev (fun k => spec_DoAct.f k l0 l1 l2 l3 a0 a1 a2 kw a4 a5 a6 a7 a8 a9) (v0, v1, v2, v3, c) ∧ Ev (fun k => impl_DoAct.f k l0 l1 l2 l3 a0 a1 a2 kw a4 a5 a6 a7 a8 a9) (v0, v1, v2, v3, c) ∧ v0.length ≤ 1048576 ∧ v1.length ≤ 1048576 ∧ v2.length ≤ 1048576 ∧ v3.length ≤ 1048576 ∧ FitB v1 v2 v3 ∧ (c = 0 → knowB l0 = true ∧ knowB v0 = true ∧ l0.sum < v0.sum) := by
  obtain ⟨st, sl, sf⟩ := id hF
  have sc : ∀ x ∈ l3, x.f0.size ≤ 140737488351232 := fun x hx => (sf x hx).1
  have hf : l3.all cellWf = true := List.all_eq_true.2 fun x hx => (sf x hx).2
  have hS := spec_StateOk_ev l0 l1 l2 l3 (by omega) (by omega) (by omega) (by omega) st sl sc
  have hS' := impl_StateOk_ev l0 l1 l2 l3 (by omega) (by omega) (by omega) (by omega) st sl sc hf
  have hA := spec_ActOk_ev a0 a1 a2 kw a4 a5 a6 a7 a8 a9 (by omega) h5 h6
  have hA' := impl_ActOk_ev a0 a1 a2 kw a4 a5 a6 a7 a8 a9 (by omega) h5 h6
  have hK := spec_Knows_ev l0 a0 a1 (by omega)
  have hK' := impl_Knows_ev l0 a0 a1 (by omega)
  have hI := spec_KnowIn_ev kw l0 (by omega) (by omega)
  have hI' := impl_KnowIn_ev kw l0 (by omega) (by omega)
  simp only [spec_DoAct.f, impl_DoAct.f, spec_copy l0 l1 l2 l3 h0 h1 h2 h3, impl_copy l0 l1 l2 l3 h0 h1 h2 h3, Option.bind_some]
  by_cases s : stateB l0 l1 l2 l3 = true
  rotate_left
  · exact ⟨l0, l1, l2, l3, 3, Ev.bind hS (by simp only [if_neg s]; exact Ev.now _), Ev.bind hS' (by simp only [if_neg s]; exact Ev.now _), h0, h1, h2, h3, hF, fun h => absurd h (by decide)⟩
  by_cases q : actB a0 a1 a2 kw a4 a5 a6 a7 a8 a9 = true
  rotate_left
  · exact ⟨l0, l1, l2, l3, 3, Ev.bind hS (by simp only [if_pos s]; exact Ev.bind hA (by simp only [if_neg q]; exact Ev.now _)), Ev.bind hS' (by simp only [if_pos s]; exact Ev.bind hA' (by simp only [if_neg q]; exact Ev.now _)), h0, h1, h2, h3, hF, fun h => absurd h (by decide)⟩
  by_cases n : knowsB l0 a0 a1 = true
  · exact ⟨l0, l1, l2, l3, 1, Ev.bind hS (by simp only [if_pos s]; exact Ev.bind hA (by simp only [if_pos q]; exact Ev.bind hK (by simp only [if_pos n]; exact Ev.now _))), Ev.bind hS' (by simp only [if_pos s]; exact Ev.bind hA' (by simp only [if_pos q]; exact Ev.bind hK' (by simp only [if_pos n]; exact Ev.now _))), h0, h1, h2, h3, hF, fun h => absurd h (by decide)⟩
  by_cases i : knowInB kw l0 = true
  rotate_left
  · exact ⟨l0, l1, l2, l3, 2, Ev.bind hS (by simp only [if_pos s]; exact Ev.bind hA (by simp only [if_pos q]; exact Ev.bind hK (by simp only [if_neg n]; exact Ev.bind hI (by simp only [if_neg i]; exact Ev.now _)))), Ev.bind hS' (by simp only [if_pos s]; exact Ev.bind hA' (by simp only [if_pos q]; exact Ev.bind hK' (by simp only [if_neg n]; exact Ev.bind hI' (by simp only [if_neg i]; exact Ev.now _)))), h0, h1, h2, h3, hF, fun h => absurd h (by decide)⟩
  obtain ⟨_, _, _, qr⟩ := actB_parts q
  obtain ⟨sk, sT, sL, sC⟩ := stateB_parts s
  have l3s := (cell_knows sC).2
  have l0s := knowB_len sk
  have hci : impl_CellAt.f l0 l1 l2 l3 a8 a9 = some (cellIx a8 a9 l3 0) := by unfold impl_CellAt.f; rw [if_pos (by omega), gCellIx_eq]
  simp only [hci, Option.bind_some]
  rcases ref_ev l0 l1 l2 l3 a0 a1 a2 kw a4 a5 a6 a7 a8 a9 (by omega) qr with ⟨e1, e2, e3⟩ | ⟨e1, e2⟩
  · obtain ⟨p0, p1, p2, p3, d1, d2, z0, z1, z2, z3, hP⟩ := do_ev l0 l1 l2 l3 a0 a1 a2 kw a4 a5 a6 a7 a8 a9 s q n e2 hF h5 h6
    obtain ⟨v0, v1, v2, v3, c, x1, x2, hv⟩ := e_ev l0 l1 l2 l3 p0 p1 p2 p3
    refine ⟨v0, v1, v2, v3, c, Ev.bind hS (by simp only [if_pos s]; exact Ev.bind hA (by simp only [if_pos q]; exact Ev.bind hK (by simp only [if_neg n]; exact Ev.bind hI (by simp only [if_pos i]; exact Ev.bind e1 (by simp only [if_true]; exact Ev.bind d1 (ev_of x1)))))), Ev.bind hS' (by simp only [if_pos s]; exact Ev.bind hA' (by simp only [if_pos q]; exact Ev.bind hK' (by simp only [if_neg n]; exact Ev.bind hI' (by simp only [if_pos i]; exact e3 _ (d2 _ x2))))), ?_⟩
    rcases hv with ⟨rfl, hv⟩ | hv
    · simp only [Prod.mk.injEq] at hv
      obtain ⟨rfl, rfl, rfl, rfl⟩ := hv
      exact ⟨h0, h1, h2, h3, hF, fun h => absurd h (by decide)⟩
    · simp only [Prod.mk.injEq] at hv
      obtain ⟨rfl, rfl, rfl, rfl⟩ := hv
      exact ⟨by rw [z0, List.length_set]; omega, by omega, by omega, by omega, hP, fun _ => ⟨sk, by rw [z0]; exact know_up sk (actB_parts q).1 n⟩⟩
  · exact ⟨l0, l1, l2, l3, 3, Ev.bind hS (by simp only [if_pos s]; exact Ev.bind hA (by simp only [if_pos q]; exact Ev.bind hK (by simp only [if_neg n]; exact Ev.bind hI (by simp only [if_pos i]; exact Ev.bind e1 (by simp only [Bool.false_eq_true, if_false]; exact Ev.now _))))), Ev.bind hS' (by simp only [if_pos s]; exact Ev.bind hA' (by simp only [if_pos q]; exact Ev.bind hK' (by simp only [if_neg n]; exact Ev.bind hI' (by simp only [if_pos i]; exact e2)))), h0, h1, h2, h3, hF, fun h => absurd h (by decide)⟩
def Fit (q0 : List Int) (q1 : List S90) (q2 : List S93) (q3 : List S96) : Prop := q0.length ≤ 1048576 ∧ q1.length ≤ 1048576 ∧ q2.length ≤ 1048576 ∧ q3.length ≤ 1048576 ∧ FitB q1 q2 q3
def FitA (y : S61) : Prop := y.f2.length ≤ 1048576 ∧ y.f4.size ≤ 140737488351232 ∧ y.f5.size ≤ 140737488351232
theorem at_ev {q0 : List Int} {q1 : List S90} {q2 : List S93} {q3 : List S96} (h : Fit q0 q1 q2 q3) {y : S61} (hy : FitA y) :
    ∃ v0 v1 v2 v3 c, Ev (fun k => DoF.at spec_DoAct.f k q0 q1 q2 q3 y) (v0, v1, v2, v3, c) ∧ Ev (fun k => DoF.at impl_DoAct.f k q0 q1 q2 q3 y) (v0, v1, v2, v3, c) ∧ Fit v0 v1 v2 v3 ∧ (c = 0 → knowB q0 = true ∧ knowB v0 = true ∧ q0.sum < v0.sum) := by
  obtain ⟨h0, h1, h2, h3, hF⟩ := h
  obtain ⟨v0, v1, v2, v3, c, e1, e2, z0, z1, z2, z3, z4, z5⟩ := doAct_ev q0 q1 q2 q3 y.f0.f0 y.f0.f1 y.f1 y.f2 y.f3 y.f4 y.f5 y.f6 y.f7.f0 y.f7.f1 h0 h1 h2 h3 hy.1 hy.2.1 hy.2.2 hF
  exact ⟨v0, v1, v2, v3, c, e1, e2, ⟨z0, z1, z2, z3, z4⟩, z5⟩
theorem szAct_ex (a b c : Int) (l : List Int) (d : Int) (s t : ByteArray) (e f g : Int) (hl : l.length ≤ 9223372036854775807) (hs : s.size ≤ 9223372036854775807) (ht : t.size ≤ 9223372036854775807) (left : Int) (h0 : 0 ≤ left ∧ left ≤ 1048576) :
    ∃ r, laws_szAct.f a b c l d s t e f g left = some r ∧ (r < 0 ∨ (0 ≤ r ∧ r ≤ left ∧ (l.length : Int) ≤ left ∧ (s.size : Int) ≤ left ∧ (t.size : Int) ≤ left)) := by
  unfold laws_szAct.f laws_szIntS.f
  rw [wi (n := left - (l.length : Int)) (by omega)]
  by_cases c1 : left - (l.length : Int) < 0
  · exact ⟨-1, by simp only [if_pos c1, Option.bind_some, if_pos (show (-1 : Int) < 0 by omega)], Or.inl (by omega)⟩
  simp only [if_neg c1, Option.bind_some]
  rw [wi (n := left - (l.length : Int) - (s.size : Int)) (by omega)]
  by_cases c2 : left - (l.length : Int) - (s.size : Int) < 0
  · exact ⟨-1, by simp only [if_pos c2], Or.inl (by omega)⟩
  simp only [if_neg c2]
  rw [wi (n := left - (l.length : Int) - (s.size : Int) - (t.size : Int)) (by omega)]
  by_cases c3 : left - (l.length : Int) - (s.size : Int) - (t.size : Int) < 0
  · exact ⟨-1, by simp only [if_pos c3], Or.inl (by omega)⟩
  · exact ⟨left - (l.length : Int) - (s.size : Int) - (t.size : Int), by simp only [if_neg c3], Or.inr (by omega)⟩
theorem toIntS_l0 (l : List Int) (hl : l.length ≤ 140737488351232) : ∀ d i, i + d = l.length → Ev (fun k => laws_toIntS.l0 k l (l.take i ++ List.replicate d 0) (i : Int)) l
  | 0, i, hi => by
    refine Ev.step (fun k => rfl) ?_
    simp only [laws_toIntS.l0, if_neg (show ¬ (i : Int) < (l.length : Int) by omega)]
    rw [show l.take i ++ List.replicate 0 0 = l by rw [List.take_of_length_le (by omega)]; simp]
    exact Ev.now _
  | d + 1, i, hi => by
    refine Ev.step (fun k => rfl) ?_
    have ih := toIntS_l0 l hl d (i + 1) (by omega)
    have e : (l.take i ++ List.replicate (d + 1) 0).set (i : Int).toNat (rd l (i : Int)) = l.take (i + 1) ++ List.replicate d 0 := take_set l 0 i d (by omega)
    simp only [laws_toIntS.l0, if_pos (show (i : Int) < (l.length : Int) by omega), if_pos (show (0 : Int) ≤ (i : Int) by omega), wr i (by omega),
      if_pos (show (i : Int) < ((l.take i ++ List.replicate (d + 1) 0).length : Int) by rw [List.length_append, List.length_take, List.length_replicate]; omega), e]
    exact ih
theorem toIntS_ev (l : List Int) (hl : l.length ≤ 17592186043904) : Ev (fun k => laws_toIntS.f k l) l := by
  unfold laws_toIntS.f
  simp only [if_pos (show (0 : Int) ≤ (l.length : Int) by omega), Int.toNat_natCast, if_pos (show l.length ≤ 35184372088832 by omega)]
  exact toIntS_l0 l (by omega) l.length 0 (by omega)
theorem toDot_eq (r s : Int) : laws_toDot.f r s = some (r, s) := rfl
theorem toAct_ev (a b c : Int) (l : List Int) (d : Int) (s t : ByteArray) (e f g : Int) (hl : l.length ≤ 1048576) : Ev (fun k => laws_toAct.f k a b c l d s t e f g) (a, b, c, l, d, s, t, e, f, g) := by
  unfold laws_toAct.f
  simp only [toDot_eq, Option.bind_some]
  exact Ev.bind (toIntS_ev l (by omega)) (Ev.now _)
theorem eqIntS_l0 (l : List Int) (hl : l.length ≤ 140737488351232) : ∀ d i, i + d = l.length → Ev (fun k => laws_eqIntS.l0 k l l (i : Int)) true
  | 0, i, hi => by
    refine Ev.step (fun k => rfl) ?_
    simp only [laws_eqIntS.l0, if_neg (show ¬ (i : Int) < (l.length : Int) by omega)]
    exact Ev.now _
  | d + 1, i, hi => by
    refine Ev.step (fun k => rfl) ?_
    simp only [laws_eqIntS.l0, if_pos (show (i : Int) < (l.length : Int) by omega), if_pos (show (0 : Int) ≤ (i : Int) by omega), if_true, wr i (by omega)]
    exact eqIntS_l0 l hl d (i + 1) (by omega)
theorem eqIntS_ev (l : List Int) (hl : l.length ≤ 140737488351232) : Ev (fun k => laws_eqIntS.f k l l) true := by
  unfold laws_eqIntS.f
  simp only [if_true]
  exact eqIntS_l0 l hl l.length 0 (by omega)
theorem eqDot_refl (r s : Int) : laws_eqDot.f r s r s = some true := by simp [laws_eqDot.f]
theorem eqAct_ev (a b c : Int) (l : List Int) (d : Int) (s t : ByteArray) (e f g : Int) (hl : l.length ≤ 140737488351232) : Ev (fun k => laws_eqAct.f k a b c l d s t e f g a b c l d s t e f g) true := by
  unfold laws_eqAct.f
  simp only [eqDot_refl, Option.bind_some, if_true]
  refine Ev.bind (eqIntS_ev l hl) ?_
  simp only [if_true]
  exact Ev.now _
def iota : Nat → Int → List Int
  | 0, _ => []
  | n + 1, m => m :: iota n (m + 1)
theorem iota_len : ∀ n m, (iota n m).length = n
  | 0, _ => rfl
  | n + 1, m => by simp [iota, iota_len n]
theorem iota_snoc : ∀ n m, iota (n + 1) m = iota n m ++ [m + n]
  | 0, m => by simp [iota]
  | n + 1, m => by
    rw [show iota (n + 1 + 1) m = m :: iota (n + 1) (m + 1) from rfl, iota_snoc n (m + 1)]
    simp [iota]; omega
theorem iota_rd : ∀ n m (i : Nat), i < n → rd (iota n m) (i : Int) = m + i
  | 0, _, i, h => by omega
  | n + 1, m, 0, _ => by simp [iota, rd]
  | n + 1, m, i + 1, h => by
    have := iota_rd n (m + 1) i (by omega)
    simp [iota, rd] at this ⊢
    omega
theorem markIntS_l0 (l : List Int) (hl : l.length ≤ 140737488351232) (m : Int) (hm : 0 ≤ m ∧ m ≤ 1000000000000000) : ∀ d i, i + d = l.length → Ev (fun k => laws_markIntS.l0 k (iota i m ++ l.drop i) (m + i) (i : Int)) (m + (l.length : Int), iota l.length m)
  | 0, i, hi => by
    refine Ev.step (fun k => rfl) ?_
    have e : (iota i m ++ l.drop i) = iota l.length m := by rw [List.drop_eq_nil_of_le (by omega), show i = l.length by omega, List.append_nil]
    simp only [laws_markIntS.l0, e, iota_len, if_neg (show ¬ (i : Int) < (l.length : Int) by omega)]
    rw [show (i : Int) = (l.length : Int) by omega]
    exact Ev.now _
  | d + 1, i, hi => by
    refine Ev.step (fun k => rfl) ?_
    have ih := markIntS_l0 l hl m hm d (i + 1) (by omega)
    have hlen : (iota i m ++ l.drop i).length = l.length := by rw [List.length_append, iota_len, List.length_drop]; omega
    have e : (iota i m ++ l.drop i).set (i : Int).toNat (m + i) = iota (i + 1) m ++ l.drop (i + 1) := by
      rw [Int.toNat_natCast, List.set_append_right _ _ (by rw [iota_len]; omega), iota_len, Nat.sub_self, drop_rd l i (by omega), List.set_cons_zero, iota_snoc, List.append_assoc]
      rfl
    simp only [laws_markIntS.l0, hlen, if_pos (show (i : Int) < (l.length : Int) by omega), if_pos (show (0 : Int) ≤ (i : Int) by omega), wr i (by omega), e, wi (n := m + i + 1) (by omega)]
    rw [show m + (i : Int) + 1 = m + ((i + 1 : Nat) : Int) by omega]
    exact ih
theorem markIntS_ev (l : List Int) (hl : l.length ≤ 140737488351232) (m : Int) (hm : 0 ≤ m ∧ m ≤ 1000000000000000) : Ev (fun k => laws_markIntS.f k l m) (m + (l.length : Int), iota l.length m) := by
  have := markIntS_l0 l hl m hm l.length 0 (by omega)
  simpa [laws_markIntS.f, iota] using this
def p10 (d : Nat) : Int := 10 ^ d
theorem p10_succ (d : Nat) : p10 (d + 1) = 10 * p10 d := by unfold p10; rw [Int.pow_succ]; omega
theorem p10_zero : p10 0 = 1 := rfl
def mtF : Nat → Int → ByteArray → ByteArray
  | 0, _, out => (⟨#[109]⟩ : ByteArray) ++ out
  | d + 1, x, out => if x > 0 then mtF d (x / 10) (strOfNums [(48 + x % 10) % 256] ++ out) else (⟨#[109]⟩ : ByteArray) ++ out
def mt (x : Int) : ByteArray := if x ≤ 0 then (⟨#[109, 48]⟩ : ByteArray) else mtF 20 x (⟨#[]⟩ : ByteArray)
theorem markText_l0 : ∀ (d : Nat) (x : Int) (out : ByteArray), 0 ≤ x → x ≤ 9223372036854775807 → x < p10 d → out.size + d ≤ 1000 → Ev (fun k => laws_markText.l0 k x out) (mtF d x out)
  | 0, x, out, h0, hm, hx, ho => by
    rw [p10_zero] at hx
    refine Ev.step (fun k => rfl) ?_
    simp only [laws_markText.l0, if_neg (show ¬ x > 0 by omega), if_pos (show 1 + out.size ≤ 9223372036854775807 by omega), mtF]
    exact Ev.now _
  | d + 1, x, out, h0, hm, hx, ho => by
    rw [p10_succ] at hx
    refine Ev.step (fun k => rfl) ?_
    by_cases c : x > 0
    · have e1 : wrap64 (Int.tdiv x 10) = x / 10 := by rw [Int.tdiv_eq_ediv_of_nonneg h0]; exact wi (by omega)
      have e2 : (wrap64 (48 + Int.tmod x 10)) % 256 = (48 + x % 10) % 256 := by rw [Int.tmod_eq_emod_of_nonneg h0, wi (by omega)]
      have hz : (strOfNums [(48 + x % 10) % 256]).size = 1 := by rw [strOfNums_size]; rfl
      simp only [laws_markText.l0, if_pos c, Option.bind_some, e1, e2, hz, if_pos (show 1 + out.size ≤ 9223372036854775807 by omega), mtF]
      exact markText_l0 d (x / 10) _ (by omega) (by omega) (by omega) (by rw [ByteArray.size_append, hz]; omega)
    · simp only [laws_markText.l0, if_neg c, if_pos (show 1 + out.size ≤ 9223372036854775807 by omega), mtF]
      exact Ev.now _
theorem mt_ev (x : Int) (h0 : 0 ≤ x) (hm : x ≤ 9000000000000000) : Ev (fun k => laws_markText.f k x) (mt x) := by
  unfold laws_markText.f mt
  by_cases c : x ≤ 0
  · simp only [if_pos c]; exact Ev.now _
  · simp only [if_neg c]
    exact markText_l0 20 x _ h0 (by omega) (by unfold p10; omega) (by decide)
theorem rdL_Act (l : List S55) (i : Nat) : rd_T55 l (i : Int) = l.getD i z55 := by unfold rd_T55; rw [Int.toNat_natCast]
theorem rdI_Act (l : List S61) (i : Nat) : rd_T61 l (i : Int) = l.getD i z61 := by unfold rd_T61; rw [Int.toNat_natCast]
def szdAct (m : Int) (x : S55) : Prop := (x.f2.length : Int) ≤ m ∧ (x.f4.size : Int) ≤ m ∧ (x.f5.size : Int) ≤ m
theorem szActS_l0 (l : List S55) (hl : l.length ≤ 140737488351232) (hG : ∀ x ∈ l, G55 x) : ∀ d i left, i + d = l.length → (0 ≤ left ∧ left ≤ 1048576) → ∃ r, Ev (fun k => laws_szActS.l0 k l left (i : Int)) r ∧ (r < 0 ∨ 0 ≤ r ∧ r ≤ left ∧ ∀ x ∈ l.drop i, szdAct left x)
  | 0, i, left, hi, h0 => ⟨left, by
    refine Ev.step (fun k => rfl) ?_
    simp only [laws_szActS.l0, if_neg (show ¬ (i : Int) < (l.length : Int) by omega)]
    exact Ev.now _, Or.inr ⟨by omega, by omega, by rw [List.drop_eq_nil_of_le (by omega)]; simp⟩⟩
  | d + 1, i, left, hi, h0 => by
    have hm : l.getD i z55 ∈ l := by rw [getD_get l i _ (by omega)]; exact List.getElem_mem _
    obtain ⟨_, _, g2, _, g4, g5, _, _⟩ := hG _ hm
    obtain ⟨r, hr, hc⟩ := szAct_ex (l.getD i z55).f0.f0 (l.getD i z55).f0.f1 (l.getD i z55).f1 (l.getD i z55).f2 (l.getD i z55).f3 (l.getD i z55).f4 (l.getD i z55).f5 (l.getD i z55).f6 (l.getD i z55).f7.f0 (l.getD i z55).f7.f1 g2.1 g4 g5 left h0
    by_cases c : r < 0
    · refine ⟨-1, ?_, Or.inl (by omega)⟩
      refine Ev.step (fun k => rfl) ?_
      simp only [laws_szActS.l0, if_pos (show (i : Int) < (l.length : Int) by omega), if_pos (show (0 : Int) ≤ (i : Int) by omega), rdL_Act, hr, Option.bind_some, if_pos c]
      exact Ev.now _
    · have hc := hc.resolve_left c
      obtain ⟨q, hq, hc2⟩ := szActS_l0 l hl hG d (i + 1) r (by omega) (by omega)
      refine ⟨q, ?_, ?_⟩
      · refine Ev.step (fun k => rfl) ?_
        simp only [laws_szActS.l0, if_pos (show (i : Int) < (l.length : Int) by omega), if_pos (show (0 : Int) ≤ (i : Int) by omega), rdL_Act, hr, Option.bind_some, if_neg c, wr i (by omega)]
        exact hq
      · rcases hc2 with h | ⟨h1, h2, h3⟩
        · exact Or.inl h
        · refine Or.inr ⟨h1, by omega, ?_⟩
          rw [drop_getD l i z55 (by omega)]
          intro x hx
          rcases List.mem_cons.1 hx with rfl | hx
          · exact ⟨hc.2.2.1, hc.2.2.2.1, hc.2.2.2.2⟩
          · have := h3 x hx; unfold szdAct at *; omega
theorem szActS_ex (l : List S55) (hl : l.length ≤ 9223372036854775807) (hG : ∀ x ∈ l, G55 x) (left : Int) (h0 : 0 ≤ left ∧ left ≤ 1048576) : ∃ r, Ev (fun k => laws_szActS.f k l left) r ∧ (r < 0 ∨ (0 ≤ r ∧ r ≤ left ∧ (l.length : Int) ≤ left ∧ ∀ x ∈ l, szdAct left x)) := by
  unfold laws_szActS.f
  rw [wi (n := left - (l.length : Int)) (by omega)]
  by_cases c : left - (l.length : Int) < 0
  · exact ⟨-1, by simp only [if_pos c]; exact Ev.now _, Or.inl (by omega)⟩
  · obtain ⟨r, hr, hc⟩ := szActS_l0 l (by omega) hG l.length 0 (left - (l.length : Int)) (by omega) (by omega)
    refine ⟨r, by simp only [if_neg c]; exact hr, ?_⟩
    rcases hc with h | ⟨h1, h2, h3⟩
    · exact Or.inl h
    · exact Or.inr ⟨h1, by omega, by omega, fun x hx => by have := h3 x (by simpa using hx); unfold szdAct at *; omega⟩
def toActC (x : S55) : S61 := ⟨⟨x.f0.f0, x.f0.f1⟩, x.f1, x.f2, x.f3, x.f4, x.f5, x.f6, ⟨x.f7.f0, x.f7.f1⟩⟩
theorem toActS_l0 (l : List S55) (hl : l.length ≤ 140737488351232) (hk : ∀ x ∈ l, x.f2.length ≤ 1048576) : ∀ d i, i + d = l.length → Ev (fun k => laws_toActS.l0 k l ((l.map toActC).take i ++ List.replicate d z61) (i : Int)) (l.map toActC)
  | 0, i, hi => by
    refine Ev.step (fun k => rfl) ?_
    simp only [laws_toActS.l0, if_neg (show ¬ (i : Int) < (l.length : Int) by omega)]
    rw [show (l.map toActC).take i ++ List.replicate 0 z61 = l.map toActC by rw [List.take_of_length_le (by rw [List.length_map]; omega)]; simp]
    exact Ev.now _
  | d + 1, i, hi => by
    refine Ev.step (fun k => rfl) ?_
    have ih := toActS_l0 l hl hk d (i + 1) (by omega)
    have hm : l.getD i z55 ∈ l := by rw [getD_get l i _ (by omega)]; exact List.getElem_mem _
    have e := set_mid (l.map toActC) z61 (toActC (l.getD i z55)) i d (by rw [List.length_map]; omega) (by rw [List.getElem_map, getD_get l i _ (by omega)])
    simp only [laws_toActS.l0, if_pos (show (i : Int) < (l.length : Int) by omega), if_pos (show (0 : Int) ≤ (i : Int) by omega), wr i (by omega), rdL_Act]
    refine Ev.bind (toAct_ev _ _ _ _ _ _ _ _ _ _ (hk _ hm)) ?_
    rw [show (⟨⟨(l.getD i z55).f0.f0, (l.getD i z55).f0.f1⟩, (l.getD i z55).f1, (l.getD i z55).f2, (l.getD i z55).f3, (l.getD i z55).f4, (l.getD i z55).f5, (l.getD i z55).f6, ⟨(l.getD i z55).f7.f0, (l.getD i z55).f7.f1⟩⟩ : S61) = toActC (l.getD i z55) from rfl, e]
    exact ih
theorem toActS_ev (l : List S55) (hl : l.length ≤ 1048576) (hk : ∀ x ∈ l, x.f2.length ≤ 1048576) : Ev (fun k => laws_toActS.f k l) (l.map toActC) := by
  unfold laws_toActS.f
  simp only [if_pos (show l.length ≤ 2513169434916 by omega)]
  exact toActS_l0 l (by omega) hk l.length 0 (by omega)
theorem eqActS_l0 (l : List S61) (hl : l.length ≤ 140737488351232) (hk : ∀ x ∈ l, x.f2.length ≤ 1048576) : ∀ d i, i + d = l.length → Ev (fun k => laws_eqActS.l0 k l l (i : Int)) true
  | 0, i, hi => by
    refine Ev.step (fun k => rfl) ?_
    simp only [laws_eqActS.l0, if_neg (show ¬ (i : Int) < (l.length : Int) by omega)]
    exact Ev.now _
  | d + 1, i, hi => by
    refine Ev.step (fun k => rfl) ?_
    have hm : l.getD i z61 ∈ l := by rw [getD_get l i _ (by omega)]; exact List.getElem_mem _
    simp only [laws_eqActS.l0, if_pos (show (i : Int) < (l.length : Int) by omega), if_pos (show (0 : Int) ≤ (i : Int) by omega), wr i (by omega), rdI_Act]
    refine Ev.bind (eqAct_ev _ _ _ _ _ _ _ _ _ _ (by have := hk _ hm; omega)) ?_
    simp only [if_true]
    exact eqActS_l0 l hl hk d (i + 1) (by omega)
theorem eqActS_ev (l : List S61) (hl : l.length ≤ 140737488351232) (hk : ∀ x ∈ l, x.f2.length ≤ 1048576) : Ev (fun k => laws_eqActS.f k l l) true := by
  unfold laws_eqActS.f
  simp only [if_true]
  exact eqActS_l0 l hl hk l.length 0 (by omega)
theorem markActS_l0 : ∀ (d i : Nat) (l : List S61) (q : Int), i + d = l.length → l.length ≤ 1048576 → (∀ x ∈ l, x.f2.length ≤ 1048576) → 0 ≤ q → q + d * 2000000 ≤ 100000000000000 → ∃ r l', Ev (fun k => laws_markActS.l0 k l q (i : Int)) (r, l') ∧ 0 ≤ r
  | 0, i, l, q, hi, hl, hk, h0, h1 => ⟨q, l, by
    refine Ev.step (fun k => rfl) ?_
    simp only [laws_markActS.l0, if_neg (show ¬ (i : Int) < (l.length : Int) by omega)]
    exact Ev.now _, h0⟩
  | d + 1, i, l, q, hi, hl, hk, h0, h1 => by
    have hm : l.getD i z61 ∈ l := by rw [getD_get l i _ (by omega)]; exact List.getElem_mem _
    have hx := hk _ hm
    have m := markIntS_ev (l.getD i z61).f2 (by omega) (q + 1 + 1 + 1) (by omega)
    have n := iota_len (l.getD i z61).f2.length (q + 1 + 1 + 1)
    generalize iota (l.getD i z61).f2.length (q + 1 + 1 + 1) = w at m n
    obtain ⟨p, hp⟩ : ∃ p, p = q + 1 + 1 + 1 + ((l.getD i z61).f2.length : Int) := ⟨_, rfl⟩
    rw [← hp] at m
    obtain ⟨r, l', hr, h⟩ := markActS_l0 d (i + 1) (l.set i (⟨⟨q, q + 1⟩, q + 1 + 1, w, p, mt (p + 1), mt (p + 1 + 1), p + 1 + 1 + 1, ⟨p + 1 + 1 + 1 + 1, p + 1 + 1 + 1 + 1 + 1⟩⟩ : S61)) (p + 1 + 1 + 1 + 1 + 1 + 1) (by rw [List.length_set]; omega) (by rw [List.length_set]; exact hl) (fun x hx => by
      rcases List.mem_or_eq_of_mem_set hx with hx | rfl
      · exact hk x hx
      · show w.length ≤ _; omega) (by omega) (by omega)
    refine ⟨r, l', ?_, h⟩
    refine Ev.step (fun k => rfl) ?_
    simp only [laws_markActS.l0, if_pos (show (i : Int) < (l.length : Int) by omega), if_pos (show (0 : Int) ≤ (i : Int) by omega), wr i (by omega), rdI_Act, wi (n := q + 1) (by omega), wi (n := q + 1 + 1) (by omega), wi (n := q + 1 + 1 + 1) (by omega)]
    refine Ev.bind m ?_
    simp only [wi (n := p + 1) (by omega), wi (n := p + 1 + 1) (by omega), wi (n := p + 1 + 1 + 1) (by omega), wi (n := p + 1 + 1 + 1 + 1) (by omega), wi (n := p + 1 + 1 + 1 + 1 + 1) (by omega), wi (n := p + 1 + 1 + 1 + 1 + 1 + 1) (by omega), Int.toNat_natCast]
    exact Ev.bind (mt_ev (p + 1) (by omega) (by omega)) (Ev.bind (mt_ev (p + 1 + 1) (by omega) (by omega)) hr)
theorem markActS_ex2 (l : List S61) (hl : l.length ≤ 1048576) (hk : ∀ x ∈ l, x.f2.length ≤ 1048576) (q : Int) (hq : 0 ≤ q ∧ q ≤ 1000000000) : ∃ y, Ev (fun k => laws_markActS.f k l q) y ∧ 0 ≤ y.1 := by
  obtain ⟨r, l', h, h0⟩ := markActS_l0 l.length 0 l q (by omega) hl hk (by omega) (by omega)
  exact ⟨(r, l'), h, h0⟩
theorem da0_ev (l : List S61) (hl : l.length ≤ 1048576) (hA : ∀ y ∈ l, FitA y) : ∀ (d i : Nat) (q0 : List Int) (q1 : List S90) (q2 : List S93) (q3 : List S96) (c : List Int), i + d = l.length → c.length = i → Fit q0 q1 q2 q3 →
    ∃ v0 v1 v2 v3 v4, Ev (fun k => da0 spec_DoAct.f k l (i : Int) q0 q1 q2 q3 c) (v0, v1, v2, v3, v4) ∧ Ev (fun k => da0 impl_DoAct.f k l (i : Int) q0 q1 q2 q3 c) (v0, v1, v2, v3, v4) ∧ Fit v0 v1 v2 v3 ∧ v4.length ≤ 1048576
  | 0, i, q0, q1, q2, q3, c, hi, hc, hF => by
    exact ⟨q0, q1, q2, q3, c, Ev.step (fun k => by simp only [da0, if_neg (show ¬ (i : Int) < (l.length : Int) by omega)]) (Ev.now _), Ev.step (fun k => by simp only [da0, if_neg (show ¬ (i : Int) < (l.length : Int) by omega)]) (Ev.now _), hF, by omega⟩
  | d + 1, i, q0, q1, q2, q3, c, hi, hc, hF => by
    have hm : l.getD i z61 ∈ l := by rw [getD_get l i _ (by omega)]; exact List.getElem_mem _
    obtain ⟨v0, v1, v2, v3, x, e1, e2, hv, _⟩ := at_ev hF (hA _ hm)
    obtain ⟨w0, w1, w2, w3, w4, a1, a2, hw, hwl⟩ := da0_ev l hl hA d (i + 1) v0 v1 v2 v3 (c ++ [x]) (by omega) (by rw [List.length_append, List.length_singleton]; omega) hv
    refine ⟨w0, w1, w2, w3, w4, ?_, ?_, hw, hwl⟩
    · refine Ev.step (fun k => rfl) ?_
      simp only [da0, if_pos (show (i : Int) < (l.length : Int) by omega), if_pos (show (0 : Int) ≤ (i : Int) by omega), wr i (by omega), rdI_Act, if_pos (show c.length < 17592186044416 by omega)]
      exact Ev.bind e1 a1
    · refine Ev.step (fun k => rfl) ?_
      simp only [da0, if_pos (show (i : Int) < (l.length : Int) by omega), if_pos (show (0 : Int) ≤ (i : Int) by omega), wr i (by omega), rdI_Act, if_pos (show c.length < 17592186044416 by omega)]
      exact Ev.bind e2 a2
theorem rdL_Tally (l : List S77) (i : Nat) : rd_T77 l (i : Int) = l.getD i z77 := by unfold rd_T77; rw [Int.toNat_natCast]
def txTally (m : Int) (x : S77) : Prop := (x.f0.size : Int) ≤ m
theorem txTally_mono {m m' : Int} (h : m ≤ m') {x : S77} (hx : txTally m x) : txTally m' x := by unfold txTally at *; omega
theorem txTally_ex (x : S77) (h0_ : x.f0.size ≤ 9223372036854775807) (left : Int) (h0 : 0 ≤ left ∧ left ≤ 1048576) : ∃ r, laws_szTally.f (x.f0) (x.f1) (x.f2) left = some r ∧ (r < 0 ∨ 0 ≤ r ∧ r ≤ left ∧ txTally left x) := by
  unfold laws_szTally.f
  rw [wi (n := left - (x.f0.size : Int)) (by omega)]
  by_cases c : left - (x.f0.size : Int) < 0
  · exact ⟨-1, by rw [if_pos c], Or.inl (by omega)⟩
  · exact ⟨left - (x.f0.size : Int), by rw [if_neg c], Or.inr ⟨by omega, by omega, by unfold txTally; omega⟩⟩
theorem txTallyS_l0 (l : List S77) (hl : l.length ≤ 140737488351232) (hG : ∀ x ∈ l, G77 x) : ∀ d i left, i + d = l.length → (0 ≤ left ∧ left ≤ 1048576) → ∃ r, Ev (fun k => laws_szTallyS.l0 k l left (i : Int)) r ∧ (r < 0 ∨ 0 ≤ r ∧ r ≤ left ∧ ∀ x ∈ l.drop i, txTally left x)
  | 0, i, left, hi, h0 => ⟨left, by
    refine Ev.step (fun k => rfl) ?_
    simp only [laws_szTallyS.l0, if_neg (show ¬ (i : Int) < (l.length : Int) by omega)]
    exact Ev.now _, Or.inr ⟨by omega, by omega, by rw [List.drop_eq_nil_of_le (by omega)]; simp⟩⟩
  | d + 1, i, left, hi, h0 => by
    have hm : l.getD i z77 ∈ l := by rw [getD_get l i _ (by omega)]; exact List.getElem_mem _
    have hg := hG _ hm
    obtain ⟨r, hr, hc⟩ := txTally_ex (l.getD i z77) hg.1 left h0
    by_cases c : r < 0
    · refine ⟨-1, ?_, Or.inl (by omega)⟩
      refine Ev.step (fun k => rfl) ?_
      simp only [laws_szTallyS.l0, if_pos (show (i : Int) < (l.length : Int) by omega), if_pos (show (0 : Int) ≤ (i : Int) by omega), rdL_Tally, hr, Option.bind_some, if_pos c]
      exact Ev.now _
    · obtain ⟨q, hq, hc2⟩ := txTallyS_l0 l hl hG d (i + 1) r (by omega) (by omega)
      refine ⟨q, ?_, ?_⟩
      · refine Ev.step (fun k => rfl) ?_
        simp only [laws_szTallyS.l0, if_pos (show (i : Int) < (l.length : Int) by omega), if_pos (show (0 : Int) ≤ (i : Int) by omega), rdL_Tally, hr, Option.bind_some, if_neg c, wr i (by omega)]
        exact hq
      · rcases hc2 with h | ⟨h1, h2, h3⟩
        · exact Or.inl h
        · have hc' : 0 ≤ r ∧ r ≤ left ∧ txTally left (l.getD i z77) := hc.resolve_left c
          refine Or.inr ⟨h1, by omega, ?_⟩
          rw [drop_getD l i z77 (by omega)]
          intro x hx
          rcases List.mem_cons.1 hx with rfl | hx
          · exact hc'.2.2
          · exact txTally_mono hc'.2.1 (h3 x hx)
theorem txTallyS_ex (l : List S77) (hl : l.length ≤ 9223372036854775807) (hG : ∀ x ∈ l, G77 x) (left : Int) (h0 : 0 ≤ left ∧ left ≤ 1048576) : ∃ r, Ev (fun k => laws_szTallyS.f k l left) r ∧ (r < 0 ∨ (0 ≤ r ∧ r ≤ left ∧ (l.length : Int) ≤ left ∧ ∀ x ∈ l, txTally left x)) := by
  unfold laws_szTallyS.f
  rw [wi (n := left - (l.length : Int)) (by omega)]
  by_cases c : left - (l.length : Int) < 0
  · exact ⟨-1, by simp only [if_pos c]; exact Ev.now _, Or.inl (by omega)⟩
  · obtain ⟨r, hr, hc⟩ := txTallyS_l0 l (by omega) hG l.length 0 (left - (l.length : Int)) (by omega) (by omega)
    refine ⟨r, by simp only [if_neg c]; exact hr, ?_⟩
    rcases hc with h | ⟨h1, h2, h3⟩
    · exact Or.inl h
    · exact Or.inr ⟨h1, by omega, by omega, fun x hx => txTally_mono (by omega) (h3 x (by simpa using hx))⟩
theorem rdL_Live (l : List S80) (i : Nat) : rd_T80 l (i : Int) = l.getD i z80 := by unfold rd_T80; rw [Int.toNat_natCast]
def txLive (m : Int) (x : S80) : Prop := (x.f1.size : Int) ≤ m ∧ (x.f2.size : Int) ≤ m
theorem txLive_mono {m m' : Int} (h : m ≤ m') {x : S80} (hx : txLive m x) : txLive m' x := by unfold txLive at *; omega
theorem txLive_ex (x : S80) (h0_ : x.f1.size ≤ 9223372036854775807) (h1_ : x.f2.size ≤ 9223372036854775807) (left : Int) (h0 : 0 ≤ left ∧ left ≤ 1048576) : ∃ r, laws_szLive.f (x.f0) (x.f1) (x.f2) (x.f3) (x.f4.f0) (x.f4.f1) left = some r ∧ (r < 0 ∨ 0 ≤ r ∧ r ≤ left ∧ txLive left x) := by
  unfold laws_szLive.f
  rw [wi (n := left - (x.f1.size : Int)) (by omega)]
  by_cases c : left - (x.f1.size : Int) < 0
  · exact ⟨-1, by rw [if_pos c], Or.inl (by omega)⟩
  · rw [if_neg c, wi (n := left - (x.f1.size : Int) - (x.f2.size : Int)) (by omega)]
    by_cases c2 : left - (x.f1.size : Int) - (x.f2.size : Int) < 0
    · exact ⟨-1, by rw [if_pos c2], Or.inl (by omega)⟩
    · exact ⟨_, by rw [if_neg c2], Or.inr ⟨by omega, by omega, by unfold txLive; omega⟩⟩
theorem txLiveS_l0 (l : List S80) (hl : l.length ≤ 140737488351232) (hG : ∀ x ∈ l, G80 x) : ∀ d i left, i + d = l.length → (0 ≤ left ∧ left ≤ 1048576) → ∃ r, Ev (fun k => laws_szLiveS.l0 k l left (i : Int)) r ∧ (r < 0 ∨ 0 ≤ r ∧ r ≤ left ∧ ∀ x ∈ l.drop i, txLive left x)
  | 0, i, left, hi, h0 => ⟨left, by
    refine Ev.step (fun k => rfl) ?_
    simp only [laws_szLiveS.l0, if_neg (show ¬ (i : Int) < (l.length : Int) by omega)]
    exact Ev.now _, Or.inr ⟨by omega, by omega, by rw [List.drop_eq_nil_of_le (by omega)]; simp⟩⟩
  | d + 1, i, left, hi, h0 => by
    have hm : l.getD i z80 ∈ l := by rw [getD_get l i _ (by omega)]; exact List.getElem_mem _
    have hg := hG _ hm
    obtain ⟨r, hr, hc⟩ := txLive_ex (l.getD i z80) hg.2.1 hg.2.2.1 left h0
    by_cases c : r < 0
    · refine ⟨-1, ?_, Or.inl (by omega)⟩
      refine Ev.step (fun k => rfl) ?_
      simp only [laws_szLiveS.l0, if_pos (show (i : Int) < (l.length : Int) by omega), if_pos (show (0 : Int) ≤ (i : Int) by omega), rdL_Live, hr, Option.bind_some, if_pos c]
      exact Ev.now _
    · obtain ⟨q, hq, hc2⟩ := txLiveS_l0 l hl hG d (i + 1) r (by omega) (by omega)
      refine ⟨q, ?_, ?_⟩
      · refine Ev.step (fun k => rfl) ?_
        simp only [laws_szLiveS.l0, if_pos (show (i : Int) < (l.length : Int) by omega), if_pos (show (0 : Int) ≤ (i : Int) by omega), rdL_Live, hr, Option.bind_some, if_neg c, wr i (by omega)]
        exact hq
      · rcases hc2 with h | ⟨h1, h2, h3⟩
        · exact Or.inl h
        · have hc' : 0 ≤ r ∧ r ≤ left ∧ txLive left (l.getD i z80) := hc.resolve_left c
          refine Or.inr ⟨h1, by omega, ?_⟩
          rw [drop_getD l i z80 (by omega)]
          intro x hx
          rcases List.mem_cons.1 hx with rfl | hx
          · exact hc'.2.2
          · exact txLive_mono hc'.2.1 (h3 x hx)
theorem txLiveS_ex (l : List S80) (hl : l.length ≤ 9223372036854775807) (hG : ∀ x ∈ l, G80 x) (left : Int) (h0 : 0 ≤ left ∧ left ≤ 1048576) : ∃ r, Ev (fun k => laws_szLiveS.f k l left) r ∧ (r < 0 ∨ (0 ≤ r ∧ r ≤ left ∧ (l.length : Int) ≤ left ∧ ∀ x ∈ l, txLive left x)) := by
  unfold laws_szLiveS.f
  rw [wi (n := left - (l.length : Int)) (by omega)]
  by_cases c : left - (l.length : Int) < 0
  · exact ⟨-1, by simp only [if_pos c]; exact Ev.now _, Or.inl (by omega)⟩
  · obtain ⟨r, hr, hc⟩ := txLiveS_l0 l (by omega) hG l.length 0 (left - (l.length : Int)) (by omega) (by omega)
    refine ⟨r, by simp only [if_neg c]; exact hr, ?_⟩
    rcases hc with h | ⟨h1, h2, h3⟩
    · exact Or.inl h
    · exact Or.inr ⟨h1, by omega, by omega, fun x hx => txLive_mono (by omega) (h3 x (by simpa using hx))⟩
theorem rdL_Cell (l : List S83) (i : Nat) : rd_T83 l (i : Int) = l.getD i z83 := by unfold rd_T83; rw [Int.toNat_natCast]
def txCell (m : Int) (x : S83) : Prop := (x.f0.size : Int) ≤ m
theorem txCell_mono {m m' : Int} (h : m ≤ m') {x : S83} (hx : txCell m x) : txCell m' x := by unfold txCell at *; omega
theorem txCell_ex (x : S83) (h0_ : x.f0.size ≤ 9223372036854775807) (left : Int) (h0 : 0 ≤ left ∧ left ≤ 1048576) : ∃ r, laws_szCell.f (x.f0) (x.f1.f0) (x.f1.f1) (x.f2) (x.f3.f0) (x.f3.f1) (x.f4) (x.f5) left = some r ∧ (r < 0 ∨ 0 ≤ r ∧ r ≤ left ∧ txCell left x) := by
  unfold laws_szCell.f
  rw [wi (n := left - (x.f0.size : Int)) (by omega)]
  by_cases c : left - (x.f0.size : Int) < 0
  · exact ⟨-1, by rw [if_pos c], Or.inl (by omega)⟩
  · exact ⟨left - (x.f0.size : Int), by rw [if_neg c], Or.inr ⟨by omega, by omega, by unfold txCell; omega⟩⟩
theorem txCellS_l0 (l : List S83) (hl : l.length ≤ 140737488351232) (hG : ∀ x ∈ l, G83 x) : ∀ d i left, i + d = l.length → (0 ≤ left ∧ left ≤ 1048576) → ∃ r, Ev (fun k => laws_szCellS.l0 k l left (i : Int)) r ∧ (r < 0 ∨ 0 ≤ r ∧ r ≤ left ∧ ∀ x ∈ l.drop i, txCell left x)
  | 0, i, left, hi, h0 => ⟨left, by
    refine Ev.step (fun k => rfl) ?_
    simp only [laws_szCellS.l0, if_neg (show ¬ (i : Int) < (l.length : Int) by omega)]
    exact Ev.now _, Or.inr ⟨by omega, by omega, by rw [List.drop_eq_nil_of_le (by omega)]; simp⟩⟩
  | d + 1, i, left, hi, h0 => by
    have hm : l.getD i z83 ∈ l := by rw [getD_get l i _ (by omega)]; exact List.getElem_mem _
    have hg := hG _ hm
    obtain ⟨r, hr, hc⟩ := txCell_ex (l.getD i z83) hg.1 left h0
    by_cases c : r < 0
    · refine ⟨-1, ?_, Or.inl (by omega)⟩
      refine Ev.step (fun k => rfl) ?_
      simp only [laws_szCellS.l0, if_pos (show (i : Int) < (l.length : Int) by omega), if_pos (show (0 : Int) ≤ (i : Int) by omega), rdL_Cell, hr, Option.bind_some, if_pos c]
      exact Ev.now _
    · obtain ⟨q, hq, hc2⟩ := txCellS_l0 l hl hG d (i + 1) r (by omega) (by omega)
      refine ⟨q, ?_, ?_⟩
      · refine Ev.step (fun k => rfl) ?_
        simp only [laws_szCellS.l0, if_pos (show (i : Int) < (l.length : Int) by omega), if_pos (show (0 : Int) ≤ (i : Int) by omega), rdL_Cell, hr, Option.bind_some, if_neg c, wr i (by omega)]
        exact hq
      · rcases hc2 with h | ⟨h1, h2, h3⟩
        · exact Or.inl h
        · have hc' : 0 ≤ r ∧ r ≤ left ∧ txCell left (l.getD i z83) := hc.resolve_left c
          refine Or.inr ⟨h1, by omega, ?_⟩
          rw [drop_getD l i z83 (by omega)]
          intro x hx
          rcases List.mem_cons.1 hx with rfl | hx
          · exact hc'.2.2
          · exact txCell_mono hc'.2.1 (h3 x hx)
theorem txCellS_ex (l : List S83) (hl : l.length ≤ 9223372036854775807) (hG : ∀ x ∈ l, G83 x) (left : Int) (h0 : 0 ≤ left ∧ left ≤ 1048576) : ∃ r, Ev (fun k => laws_szCellS.f k l left) r ∧ (r < 0 ∨ (0 ≤ r ∧ r ≤ left ∧ (l.length : Int) ≤ left ∧ ∀ x ∈ l, txCell left x)) := by
  unfold laws_szCellS.f
  rw [wi (n := left - (l.length : Int)) (by omega)]
  by_cases c : left - (l.length : Int) < 0
  · exact ⟨-1, by simp only [if_pos c]; exact Ev.now _, Or.inl (by omega)⟩
  · obtain ⟨r, hr, hc⟩ := txCellS_l0 l (by omega) hG l.length 0 (left - (l.length : Int)) (by omega) (by omega)
    refine ⟨r, by simp only [if_neg c]; exact hr, ?_⟩
    rcases hc with h | ⟨h1, h2, h3⟩
    · exact Or.inl h
    · exact Or.inr ⟨h1, by omega, by omega, fun x hx => txCell_mono (by omega) (h3 x (by simpa using hx))⟩
theorem txState_ex (a : List Int) (b : List S77) (c : List S80) (d : List S83) (ha : a.length ≤ 9223372036854775807) (hb : b.length ≤ 9223372036854775807 ∧ ∀ x ∈ b, G77 x) (hc : c.length ≤ 9223372036854775807 ∧ ∀ x ∈ c, G80 x) (hd : d.length ≤ 9223372036854775807 ∧ ∀ x ∈ d, G83 x)
    (left : Int) (h0 : 0 ≤ left ∧ left ≤ 1048576) : ∃ r, Ev (fun k => laws_szState.f k a b c d left) r ∧ (r < 0 ∨ (0 ≤ r ∧ r ≤ left ∧ (a.length : Int) ≤ left ∧ (b.length : Int) ≤ left ∧ (c.length : Int) ≤ left ∧ (d.length : Int) ≤ left ∧ (∀ x ∈ b, txTally left x) ∧ (∀ x ∈ c, txLive left x) ∧ (∀ x ∈ d, txCell left x))) := by
  unfold laws_szState.f laws_szIntS.f
  rw [wi (n := left - (a.length : Int)) (by omega)]
  by_cases c1 : left - (a.length : Int) < 0
  · exact ⟨-1, by simp only [if_pos c1, Option.bind_some, if_pos (show (-1 : Int) < 0 by omega)]; exact Ev.now _, Or.inl (by omega)⟩
  simp only [if_neg c1, Option.bind_some]
  obtain ⟨r1, e1, q1⟩ := txTallyS_ex b hb.1 hb.2 (left - (a.length : Int)) (by omega)
  by_cases c2 : r1 < 0
  · exact ⟨-1, Ev.bind e1 (by simp only [if_pos c2]; exact Ev.now _), Or.inl (by omega)⟩
  replace q1 := q1.resolve_left c2
  obtain ⟨r2, e2, q2⟩ := txLiveS_ex c hc.1 hc.2 r1 (by omega)
  by_cases c3 : r2 < 0
  · exact ⟨-1, Ev.bind e1 (by simp only [if_neg c2]; exact Ev.bind e2 (by simp only [if_pos c3]; exact Ev.now _)), Or.inl (by omega)⟩
  replace q2 := q2.resolve_left c3
  obtain ⟨r3, e3, q3⟩ := txCellS_ex d hd.1 hd.2 r2 (by omega)
  by_cases c4 : r3 < 0
  · exact ⟨-1, Ev.bind e1 (by simp only [if_neg c2]; exact Ev.bind e2 (by simp only [if_neg c3]; exact Ev.bind e3 (by simp only [if_pos c4]; exact Ev.now _))), Or.inl (by omega)⟩
  · replace q3 := q3.resolve_left c4
    obtain ⟨a1, a2, a3, a4⟩ := q1
    obtain ⟨b1, b2, b3, b4⟩ := q2
    obtain ⟨d1, d2, d3, d4⟩ := q3
    exact ⟨r3, Ev.bind e1 (by simp only [if_neg c2]; exact Ev.bind e2 (by simp only [if_neg c3]; exact Ev.bind e3 (by simp only [if_neg c4]; exact Ev.now _))), Or.inr ⟨by omega, by omega, by omega, by omega, by omega, by omega, fun x hx => txTally_mono (by omega) (a4 x hx), fun x hx => txLive_mono (by omega) (b4 x hx), fun x hx => txCell_mono (by omega) (d4 x hx)⟩⟩
def toTallyC (x : S77) : S90 := ⟨x.f0, x.f1, x.f2⟩
theorem toTallyS_l0 (l : List S77) (hl : l.length ≤ 140737488351232) : ∀ d i, i + d = l.length → Ev (fun k => laws_toTallyS.l0 k l ((l.map toTallyC).take i ++ List.replicate d z90) (i : Int)) (l.map toTallyC)
  | 0, i, hi => by
    refine Ev.step (fun k => rfl) ?_
    simp only [laws_toTallyS.l0, if_neg (show ¬ (i : Int) < (l.length : Int) by omega)]
    rw [show (l.map toTallyC).take i ++ List.replicate 0 z90 = l.map toTallyC by rw [List.take_of_length_le (by rw [List.length_map]; omega)]; simp]
    exact Ev.now _
  | d + 1, i, hi => by
    refine Ev.step (fun k => rfl) ?_
    have ih := toTallyS_l0 l hl d (i + 1) (by omega)
    have e := set_mid (l.map toTallyC) z90 (toTallyC (l.getD i z77)) i d (by rw [List.length_map]; omega) (by rw [List.getElem_map, getD_get l i _ (by omega)])
    simp only [laws_toTallyS.l0, if_pos (show (i : Int) < (l.length : Int) by omega), if_pos (show (0 : Int) ≤ (i : Int) by omega), wr i (by omega), rdL_Tally, laws_toTally.f, Option.bind_some,
      if_pos (show (i : Int) < (((l.map toTallyC).take i ++ List.replicate (d + 1) z90).length : Int) by rw [List.length_append, List.length_take, List.length_replicate, List.length_map]; omega)]
    rw [show (⟨(l.getD i z77).f0, (l.getD i z77).f1, (l.getD i z77).f2⟩ : S90) = toTallyC (l.getD i z77) from rfl, e]
    exact ih
theorem toTallyS_ev (l : List S77) (hl : l.length ≤ 1048576) : Ev (fun k => laws_toTallyS.f k l) (l.map toTallyC) := by
  unfold laws_toTallyS.f
  simp only [if_pos (show (0 : Int) ≤ (l.length : Int) by omega), Int.toNat_natCast, if_pos (show l.length ≤ 8796093022208 by omega)]
  exact toTallyS_l0 l (by omega) l.length 0 (by omega)
def toLiveC (x : S80) : S93 := ⟨x.f0, x.f1, x.f2, x.f3, ⟨x.f4.f0, x.f4.f1⟩⟩
theorem toLiveS_l0 (l : List S80) (hl : l.length ≤ 140737488351232) : ∀ d i, i + d = l.length → Ev (fun k => laws_toLiveS.l0 k l ((l.map toLiveC).take i ++ List.replicate d z93) (i : Int)) (l.map toLiveC)
  | 0, i, hi => by
    refine Ev.step (fun k => rfl) ?_
    simp only [laws_toLiveS.l0, if_neg (show ¬ (i : Int) < (l.length : Int) by omega)]
    rw [show (l.map toLiveC).take i ++ List.replicate 0 z93 = l.map toLiveC by rw [List.take_of_length_le (by rw [List.length_map]; omega)]; simp]
    exact Ev.now _
  | d + 1, i, hi => by
    refine Ev.step (fun k => rfl) ?_
    have ih := toLiveS_l0 l hl d (i + 1) (by omega)
    have e := set_mid (l.map toLiveC) z93 (toLiveC (l.getD i z80)) i d (by rw [List.length_map]; omega) (by rw [List.getElem_map, getD_get l i _ (by omega)])
    simp only [laws_toLiveS.l0, if_pos (show (i : Int) < (l.length : Int) by omega), if_pos (show (0 : Int) ≤ (i : Int) by omega), wr i (by omega), rdL_Live, laws_toLive.f, toDot_eq, Option.bind_some,
      if_pos (show (i : Int) < (((l.map toLiveC).take i ++ List.replicate (d + 1) z93).length : Int) by rw [List.length_append, List.length_take, List.length_replicate, List.length_map]; omega)]
    rw [show (⟨(l.getD i z80).f0, (l.getD i z80).f1, (l.getD i z80).f2, (l.getD i z80).f3, ⟨(l.getD i z80).f4.f0, (l.getD i z80).f4.f1⟩⟩ : S93) = toLiveC (l.getD i z80) from rfl, e]
    exact ih
theorem toLiveS_ev (l : List S80) (hl : l.length ≤ 1048576) : Ev (fun k => laws_toLiveS.f k l) (l.map toLiveC) := by
  unfold laws_toLiveS.f
  simp only [if_pos (show (0 : Int) ≤ (l.length : Int) by omega), Int.toNat_natCast, if_pos (show l.length ≤ 4398046511104 by omega)]
  exact toLiveS_l0 l (by omega) l.length 0 (by omega)
def toCellC (x : S83) : S96 := ⟨x.f0, ⟨x.f1.f0, x.f1.f1⟩, x.f2, ⟨x.f3.f0, x.f3.f1⟩, x.f4, x.f5⟩
theorem toCellS_l0 (l : List S83) (hl : l.length ≤ 140737488351232) : ∀ d i, i + d = l.length → Ev (fun k => laws_toCellS.l0 k l ((l.map toCellC).take i ++ List.replicate d z96) (i : Int)) (l.map toCellC)
  | 0, i, hi => by
    refine Ev.step (fun k => rfl) ?_
    simp only [laws_toCellS.l0, if_neg (show ¬ (i : Int) < (l.length : Int) by omega)]
    rw [show (l.map toCellC).take i ++ List.replicate 0 z96 = l.map toCellC by rw [List.take_of_length_le (by rw [List.length_map]; omega)]; simp]
    exact Ev.now _
  | d + 1, i, hi => by
    refine Ev.step (fun k => rfl) ?_
    have ih := toCellS_l0 l hl d (i + 1) (by omega)
    have e := set_mid (l.map toCellC) z96 (toCellC (l.getD i z83)) i d (by rw [List.length_map]; omega) (by rw [List.getElem_map, getD_get l i _ (by omega)])
    simp only [laws_toCellS.l0, if_pos (show (i : Int) < (l.length : Int) by omega), if_pos (show (0 : Int) ≤ (i : Int) by omega), wr i (by omega), rdL_Cell, laws_toCell.f, toDot_eq, Option.bind_some,
      if_pos (show (i : Int) < (((l.map toCellC).take i ++ List.replicate (d + 1) z96).length : Int) by rw [List.length_append, List.length_take, List.length_replicate, List.length_map]; omega)]
    rw [show (⟨(l.getD i z83).f0, ⟨(l.getD i z83).f1.f0, (l.getD i z83).f1.f1⟩, (l.getD i z83).f2, ⟨(l.getD i z83).f3.f0, (l.getD i z83).f3.f1⟩, (l.getD i z83).f4, (l.getD i z83).f5⟩ : S96) = toCellC (l.getD i z83) from rfl, e]
    exact ih
theorem toCellS_ev (l : List S83) (hl : l.length ≤ 1048576) : Ev (fun k => laws_toCellS.f k l) (l.map toCellC) := by
  unfold laws_toCellS.f
  simp only [if_pos (show (0 : Int) ≤ (l.length : Int) by omega), Int.toNat_natCast, if_pos (show l.length ≤ 3909374676536 by omega)]
  exact toCellS_l0 l (by omega) l.length 0 (by omega)
theorem toState_ev (a : List Int) (b : List S77) (c : List S80) (d : List S83) (ha : a.length ≤ 1048576) (hb : b.length ≤ 1048576) (hc : c.length ≤ 1048576) (hd : d.length ≤ 1048576) :
    Ev (fun k => laws_toState.f k a b c d) (a, b.map toTallyC, c.map toLiveC, d.map toCellC) := by
  unfold laws_toState.f
  exact Ev.bind (toIntS_ev a (by omega)) (Ev.bind (toTallyS_ev b hb) (Ev.bind (toLiveS_ev c hc) (Ev.bind (toCellS_ev d hd) (Ev.now _))))
theorem eqTally_refl (x : S90) : laws_eqTally.f (x.f0) (x.f1) (x.f2) (x.f0) (x.f1) (x.f2) = some true := by simp [laws_eqTally.f]
theorem eqTallyS_l0 (l : List S90) (hl : l.length ≤ 140737488351232) : ∀ d i, i + d = l.length → Ev (fun k => laws_eqTallyS.l0 k l l (i : Int)) true
  | 0, i, hi => by
    refine Ev.step (fun k => rfl) ?_
    simp only [laws_eqTallyS.l0, if_neg (show ¬ (i : Int) < (l.length : Int) by omega)]
    exact Ev.now _
  | d + 1, i, hi => by
    refine Ev.step (fun k => rfl) ?_
    simp only [laws_eqTallyS.l0, if_pos (show (i : Int) < (l.length : Int) by omega), if_pos (show (0 : Int) ≤ (i : Int) by omega), eqTally_refl, Option.bind_some, if_true, wr i (by omega)]
    exact eqTallyS_l0 l hl d (i + 1) (by omega)
theorem eqTallyS_ev (l : List S90) (hl : l.length ≤ 140737488351232) : Ev (fun k => laws_eqTallyS.f k l l) true := by
  unfold laws_eqTallyS.f
  simp only [if_true]
  exact eqTallyS_l0 l hl l.length 0 (by omega)
theorem eqLive_refl (x : S93) : laws_eqLive.f (x.f0) (x.f1) (x.f2) (x.f3) (x.f4.f0) (x.f4.f1) (x.f0) (x.f1) (x.f2) (x.f3) (x.f4.f0) (x.f4.f1) = some true := by simp [laws_eqLive.f, eqDot_refl]
theorem eqLiveS_l0 (l : List S93) (hl : l.length ≤ 140737488351232) : ∀ d i, i + d = l.length → Ev (fun k => laws_eqLiveS.l0 k l l (i : Int)) true
  | 0, i, hi => by
    refine Ev.step (fun k => rfl) ?_
    simp only [laws_eqLiveS.l0, if_neg (show ¬ (i : Int) < (l.length : Int) by omega)]
    exact Ev.now _
  | d + 1, i, hi => by
    refine Ev.step (fun k => rfl) ?_
    simp only [laws_eqLiveS.l0, if_pos (show (i : Int) < (l.length : Int) by omega), if_pos (show (0 : Int) ≤ (i : Int) by omega), eqLive_refl, Option.bind_some, if_true, wr i (by omega)]
    exact eqLiveS_l0 l hl d (i + 1) (by omega)
theorem eqLiveS_ev (l : List S93) (hl : l.length ≤ 140737488351232) : Ev (fun k => laws_eqLiveS.f k l l) true := by
  unfold laws_eqLiveS.f
  simp only [if_true]
  exact eqLiveS_l0 l hl l.length 0 (by omega)
theorem eqCell_refl (x : S96) : laws_eqCell.f (x.f0) (x.f1.f0) (x.f1.f1) (x.f2) (x.f3.f0) (x.f3.f1) (x.f4) (x.f5) (x.f0) (x.f1.f0) (x.f1.f1) (x.f2) (x.f3.f0) (x.f3.f1) (x.f4) (x.f5) = some true := by simp [laws_eqCell.f, eqDot_refl]
theorem eqCellS_l0 (l : List S96) (hl : l.length ≤ 140737488351232) : ∀ d i, i + d = l.length → Ev (fun k => laws_eqCellS.l0 k l l (i : Int)) true
  | 0, i, hi => by
    refine Ev.step (fun k => rfl) ?_
    simp only [laws_eqCellS.l0, if_neg (show ¬ (i : Int) < (l.length : Int) by omega)]
    exact Ev.now _
  | d + 1, i, hi => by
    refine Ev.step (fun k => rfl) ?_
    simp only [laws_eqCellS.l0, if_pos (show (i : Int) < (l.length : Int) by omega), if_pos (show (0 : Int) ≤ (i : Int) by omega), eqCell_refl, Option.bind_some, if_true, wr i (by omega)]
    exact eqCellS_l0 l hl d (i + 1) (by omega)
theorem eqCellS_ev (l : List S96) (hl : l.length ≤ 140737488351232) : Ev (fun k => laws_eqCellS.f k l l) true := by
  unfold laws_eqCellS.f
  simp only [if_true]
  exact eqCellS_l0 l hl l.length 0 (by omega)
theorem eqState_ev (a : List Int) (b : List S90) (c : List S93) (d : List S96) (ha : a.length ≤ 140737488351232) (hb : b.length ≤ 140737488351232) (hc : c.length ≤ 140737488351232) (hd : d.length ≤ 140737488351232) :
    Ev (fun k => laws_eqState.f k a b c d a b c d) true := by
  unfold laws_eqState.f
  refine Ev.bind (eqIntS_ev a ha) ?_
  simp only [if_true]
  refine Ev.bind (eqTallyS_ev b hb) ?_
  simp only [if_true]
  refine Ev.bind (eqLiveS_ev c hc) ?_
  simp only [if_true]
  exact Ev.bind (eqCellS_ev d hd) (Ev.now _)
def vTally (m : Int) : S90 := ⟨mt m, m + 1, m + 2⟩
theorem markTallyS_l0 (l : List S90) (hl : l.length ≤ 1000000000) (m : Int) (hm : 0 ≤ m ∧ m ≤ 1000000000000) : ∀ d i, i + d = l.length → Ev (fun k => laws_markTallyS.l0 k (marks vTally 3 i m ++ l.drop i) (m + i * 3) (i : Int)) (m + (l.length : Int) * 3, marks vTally 3 l.length m)
  | 0, i, hi => by
    refine Ev.step (fun k => rfl) ?_
    simp only [laws_markTallyS.l0, marks_mid vTally 3 l m i (by omega), if_neg (show ¬ (i : Int) < (l.length : Int) by omega)]
    rw [List.drop_eq_nil_of_le (show l.length ≤ i by omega), List.append_nil, show i = l.length by omega]
    exact Ev.now _
  | d + 1, i, hi => by
    refine Ev.step (fun k => rfl) ?_
    have ih := markTallyS_l0 l hl m hm d (i + 1) (by omega)
    have hlen := marks_mid vTally 3 l m i (by omega)
    have rdset : ∀ x : S90, rd_T90 ((marks vTally 3 i m ++ l.drop i).set (i : Int).toNat x) (i : Int) = x := fun x => by
      rw [rdI_Tally, Int.toNat_natCast, getD_set _ _ _ _ (Nat.lt_of_lt_of_eq (show i < l.length by omega) hlen.symm)]
    have hset := marks_set vTally 3 l m i (by omega) _ rfl
    rw [show vTally (m + (i : Int) * 3) = (⟨mt (m + (i : Int) * 3), m + (i : Int) * 3 + 1, m + (i : Int) * 3 + 2⟩ : S90) from rfl] at hset
    simp only [laws_markTallyS.l0, hlen, if_pos (show (i : Int) < (l.length : Int) by omega), if_pos (show (0 : Int) ≤ (i : Int) by omega), wr i (by omega), Option.bind_some, List.set_set, rdset, wi (n := m + (i : Int) * 3 + 1) (by omega), wi (n := m + (i : Int) * 3 + 1 + 1) (by omega), wi (n := m + (i : Int) * 3 + 1 + 1 + 1) (by omega)]
    refine Ev.bind (mt_ev (m + (i : Int) * 3) (by omega) (by omega)) ?_
    (try simp only [Option.bind_some, List.set_set, rdset])
    simp only [show m + (i : Int) * 3 + 1 + 1 = m + (i : Int) * 3 + 2 by omega, show m + (i : Int) * 3 + 2 + 1 = m + (i : Int) * 3 + 3 by omega]
    rw [hset, show m + (i : Int) * 3 + 3 = m + ((i + 1 : Nat) : Int) * 3 by omega]
    exact ih
theorem markTallyS_ev (l : List S90) (hl : l.length ≤ 1000000000) (m : Int) (hm : 0 ≤ m ∧ m ≤ 1000000000000) : Ev (fun k => laws_markTallyS.f k l m) (m + (l.length : Int) * 3, marks vTally 3 l.length m) := by
  have := markTallyS_l0 l hl m hm l.length 0 (by omega)
  simpa [laws_markTallyS.f, marks] using this
def vLive (m : Int) : S93 := ⟨(Int.tmod m 3 == 0), mt (m + 1), mt (m + 2), m + 3, ⟨m + 4, m + 5⟩⟩
theorem markLiveS_l0 (l : List S93) (hl : l.length ≤ 1000000000) (m : Int) (hm : 0 ≤ m ∧ m ≤ 1000000000000) : ∀ d i, i + d = l.length → Ev (fun k => laws_markLiveS.l0 k (marks vLive 6 i m ++ l.drop i) (m + i * 6) (i : Int)) (m + (l.length : Int) * 6, marks vLive 6 l.length m)
  | 0, i, hi => by
    refine Ev.step (fun k => rfl) ?_
    simp only [laws_markLiveS.l0, marks_mid vLive 6 l m i (by omega), if_neg (show ¬ (i : Int) < (l.length : Int) by omega)]
    rw [List.drop_eq_nil_of_le (show l.length ≤ i by omega), List.append_nil, show i = l.length by omega]
    exact Ev.now _
  | d + 1, i, hi => by
    refine Ev.step (fun k => rfl) ?_
    have ih := markLiveS_l0 l hl m hm d (i + 1) (by omega)
    have hlen := marks_mid vLive 6 l m i (by omega)
    have rdset : ∀ x : S93, rd_T93 ((marks vLive 6 i m ++ l.drop i).set (i : Int).toNat x) (i : Int) = x := fun x => by
      rw [rdI_Live, Int.toNat_natCast, getD_set _ _ _ _ (Nat.lt_of_lt_of_eq (show i < l.length by omega) hlen.symm)]
    have hset := marks_set vLive 6 l m i (by omega) _ rfl
    rw [show vLive (m + (i : Int) * 6) = (⟨(Int.tmod (m + (i : Int) * 6) 3 == 0), mt (m + (i : Int) * 6 + 1), mt (m + (i : Int) * 6 + 2), m + (i : Int) * 6 + 3, ⟨m + (i : Int) * 6 + 4, m + (i : Int) * 6 + 5⟩⟩ : S93) from rfl] at hset
    simp only [laws_markLiveS.l0, hlen, if_pos (show (i : Int) < (l.length : Int) by omega), if_pos (show (0 : Int) ≤ (i : Int) by omega), wr i (by omega), Option.bind_some, List.set_set, rdset, wi (n := m + (i : Int) * 6 + 1) (by omega), wi (n := m + (i : Int) * 6 + 1 + 1) (by omega), wi (n := m + (i : Int) * 6 + 1 + 1 + 1) (by omega), wi (n := m + (i : Int) * 6 + 1 + 1 + 1 + 1) (by omega), wi (n := m + (i : Int) * 6 + 1 + 1 + 1 + 1 + 1) (by omega), wi (n := m + (i : Int) * 6 + 1 + 1 + 1 + 1 + 1 + 1) (by omega)]
    refine Ev.bind (mt_ev (m + (i : Int) * 6 + 1) (by omega) (by omega)) ?_
    (try simp only [Option.bind_some, List.set_set, rdset])
    refine Ev.bind (mt_ev (m + (i : Int) * 6 + 1 + 1) (by omega) (by omega)) ?_
    (try simp only [Option.bind_some, List.set_set, rdset])
    simp only [show m + (i : Int) * 6 + 1 + 1 = m + (i : Int) * 6 + 2 by omega, show m + (i : Int) * 6 + 2 + 1 = m + (i : Int) * 6 + 3 by omega, show m + (i : Int) * 6 + 3 + 1 = m + (i : Int) * 6 + 4 by omega, show m + (i : Int) * 6 + 4 + 1 = m + (i : Int) * 6 + 5 by omega, show m + (i : Int) * 6 + 5 + 1 = m + (i : Int) * 6 + 6 by omega]
    rw [hset, show m + (i : Int) * 6 + 6 = m + ((i + 1 : Nat) : Int) * 6 by omega]
    exact ih
theorem markLiveS_ev (l : List S93) (hl : l.length ≤ 1000000000) (m : Int) (hm : 0 ≤ m ∧ m ≤ 1000000000000) : Ev (fun k => laws_markLiveS.f k l m) (m + (l.length : Int) * 6, marks vLive 6 l.length m) := by
  have := markLiveS_l0 l hl m hm l.length 0 (by omega)
  simpa [laws_markLiveS.f, marks] using this
def vCell (m : Int) : S96 := ⟨mt m, ⟨m + 1, m + 2⟩, m + 3, ⟨m + 4, m + 5⟩, m + 6, (Int.tmod (m + 7) 3 == 0)⟩
theorem markCellS_l0 (l : List S96) (hl : l.length ≤ 1000000000) (m : Int) (hm : 0 ≤ m ∧ m ≤ 1000000000000) : ∀ d i, i + d = l.length → Ev (fun k => laws_markCellS.l0 k (marks vCell 8 i m ++ l.drop i) (m + i * 8) (i : Int)) (m + (l.length : Int) * 8, marks vCell 8 l.length m)
  | 0, i, hi => by
    refine Ev.step (fun k => rfl) ?_
    simp only [laws_markCellS.l0, marks_mid vCell 8 l m i (by omega), if_neg (show ¬ (i : Int) < (l.length : Int) by omega)]
    rw [List.drop_eq_nil_of_le (show l.length ≤ i by omega), List.append_nil, show i = l.length by omega]
    exact Ev.now _
  | d + 1, i, hi => by
    refine Ev.step (fun k => rfl) ?_
    have ih := markCellS_l0 l hl m hm d (i + 1) (by omega)
    have hlen := marks_mid vCell 8 l m i (by omega)
    have rdset : ∀ x : S96, rd_T96 ((marks vCell 8 i m ++ l.drop i).set (i : Int).toNat x) (i : Int) = x := fun x => by
      rw [rdI_Cell, Int.toNat_natCast, getD_set _ _ _ _ (Nat.lt_of_lt_of_eq (show i < l.length by omega) hlen.symm)]
    have hset := marks_set vCell 8 l m i (by omega) _ rfl
    rw [show vCell (m + (i : Int) * 8) = (⟨mt (m + (i : Int) * 8), ⟨m + (i : Int) * 8 + 1, m + (i : Int) * 8 + 2⟩, m + (i : Int) * 8 + 3, ⟨m + (i : Int) * 8 + 4, m + (i : Int) * 8 + 5⟩, m + (i : Int) * 8 + 6, (Int.tmod (m + (i : Int) * 8 + 7) 3 == 0)⟩ : S96) from rfl] at hset
    simp only [laws_markCellS.l0, hlen, if_pos (show (i : Int) < (l.length : Int) by omega), if_pos (show (0 : Int) ≤ (i : Int) by omega), wr i (by omega), Option.bind_some, List.set_set, rdset, wi (n := m + (i : Int) * 8 + 1) (by omega), wi (n := m + (i : Int) * 8 + 1 + 1) (by omega), wi (n := m + (i : Int) * 8 + 1 + 1 + 1) (by omega), wi (n := m + (i : Int) * 8 + 1 + 1 + 1 + 1) (by omega), wi (n := m + (i : Int) * 8 + 1 + 1 + 1 + 1 + 1) (by omega), wi (n := m + (i : Int) * 8 + 1 + 1 + 1 + 1 + 1 + 1) (by omega), wi (n := m + (i : Int) * 8 + 1 + 1 + 1 + 1 + 1 + 1 + 1) (by omega), wi (n := m + (i : Int) * 8 + 1 + 1 + 1 + 1 + 1 + 1 + 1 + 1) (by omega)]
    refine Ev.bind (mt_ev (m + (i : Int) * 8) (by omega) (by omega)) ?_
    (try simp only [Option.bind_some, List.set_set, rdset])
    simp only [show m + (i : Int) * 8 + 1 + 1 = m + (i : Int) * 8 + 2 by omega, show m + (i : Int) * 8 + 2 + 1 = m + (i : Int) * 8 + 3 by omega, show m + (i : Int) * 8 + 3 + 1 = m + (i : Int) * 8 + 4 by omega, show m + (i : Int) * 8 + 4 + 1 = m + (i : Int) * 8 + 5 by omega, show m + (i : Int) * 8 + 5 + 1 = m + (i : Int) * 8 + 6 by omega, show m + (i : Int) * 8 + 6 + 1 = m + (i : Int) * 8 + 7 by omega, show m + (i : Int) * 8 + 7 + 1 = m + (i : Int) * 8 + 8 by omega]
    rw [hset, show m + (i : Int) * 8 + 8 = m + ((i + 1 : Nat) : Int) * 8 by omega]
    exact ih
theorem markCellS_ev (l : List S96) (hl : l.length ≤ 1000000000) (m : Int) (hm : 0 ≤ m ∧ m ≤ 1000000000000) : Ev (fun k => laws_markCellS.f k l m) (m + (l.length : Int) * 8, marks vCell 8 l.length m) := by
  have := markCellS_l0 l hl m hm l.length 0 (by omega)
  simpa [laws_markCellS.f, marks] using this
theorem markState_ev (a : List Int) (b : List S90) (c : List S93) (d : List S96) (ha : a.length ≤ 10000000) (hb : b.length ≤ 10000000) (hc : c.length ≤ 10000000) (hd : d.length ≤ 10000000) (m : Int) (hm : 0 ≤ m ∧ m ≤ 1000000000) :
    Ev (fun k => laws_markState.f k a b c d m) (m + (a.length : Int) + (b.length : Int) * 3 + (c.length : Int) * 6 + (d.length : Int) * 8, iota a.length m, marks vTally 3 b.length (m + (a.length : Int)), marks vLive 6 c.length (m + (a.length : Int) + (b.length : Int) * 3), marks vCell 8 d.length (m + (a.length : Int) + (b.length : Int) * 3 + (c.length : Int) * 6)) := by
  unfold laws_markState.f
  exact Ev.bind (markIntS_ev a (by omega) m (by omega)) (Ev.bind (markTallyS_ev b (by omega) _ (by simp only; omega)) (Ev.bind (markLiveS_ev c (by omega) _ (by simp only; omega)) (Ev.bind (markCellS_ev d (by omega) _ (by simp only; omega)) (Ev.now _))))
theorem heldIntS_l0 (n : Nat) (hn : n ≤ 140737488351232) (m : Int) (hm : 0 ≤ m ∧ m ≤ 1000000000000) : ∀ d i, i + d = n → Ev (fun k => laws_heldIntS.l0 k (iota n m) (m + i) (i : Int)) (m + (n : Int))
  | 0, i, hi => by
    refine Ev.step (fun k => rfl) ?_
    simp only [laws_heldIntS.l0, iota_len, if_neg (show ¬ (i : Int) < (n : Int) by omega)]
    rw [show (i : Int) = (n : Int) by omega]
    exact Ev.now _
  | d + 1, i, hi => by
    refine Ev.step (fun k => rfl) ?_
    have ih := heldIntS_l0 n hn m hm d (i + 1) (by omega)
    simp only [laws_heldIntS.l0, iota_len, if_pos (show (i : Int) < (n : Int) by omega), if_pos (show (0 : Int) ≤ (i : Int) by omega), wr i (by omega), if_pos (iota_rd n m i (by omega)), wi (n := m + i + 1) (by omega)]
    rw [show m + (i : Int) + 1 = m + ((i + 1 : Nat) : Int) by omega]
    exact ih
theorem heldIntS_ev (n : Nat) (hn : n ≤ 140737488351232) (m : Int) (hm : 0 ≤ m ∧ m ≤ 1000000000000) : Ev (fun k => laws_heldIntS.f k (iota n m) m) (m + (n : Int)) := by
  have := heldIntS_l0 n hn m hm n 0 (by omega)
  simpa [laws_heldIntS.f] using this
theorem heldTallyS_l0 (n : Nat) (hn : n ≤ 1000000000) (m : Int) (hm : 0 ≤ m ∧ m ≤ 1000000000000) : ∀ d i, i + d = n → Ev (fun k => laws_heldTallyS.l0 k (marks vTally 3 n m) (m + i * 3) (i : Int)) (m + (n : Int) * 3)
  | 0, i, hi => by
    refine Ev.step (fun k => rfl) ?_
    simp only [laws_heldTallyS.l0, marks_len, if_neg (show ¬ (i : Int) < (n : Int) by omega)]
    rw [show i = n by omega]
    exact Ev.now _
  | d + 1, i, hi => by
    refine Ev.step (fun k => rfl) ?_
    have ih := heldTallyS_l0 n hn m hm d (i + 1) (by omega)
    have g : rd_T90 (marks vTally 3 n m) (i : Int) = (⟨mt (m + (i : Int) * 3), m + (i : Int) * 3 + 1, m + (i : Int) * 3 + 2⟩ : S90) := by
      rw [rdI_Tally, marks_get vTally 3 _ n m i (by omega)]; rfl
    simp only [laws_heldTallyS.l0, marks_len, if_pos (show (i : Int) < (n : Int) by omega), if_pos (show (0 : Int) ≤ (i : Int) by omega), wr i (by omega), g, wi (n := m + (i : Int) * 3 + 1) (by omega), wi (n := m + (i : Int) * 3 + 1 + 1) (by omega), wi (n := m + (i : Int) * 3 + 1 + 1 + 1) (by omega)]
    refine Ev.bind (mt_ev (m + (i : Int) * 3) (by omega) (by omega)) ?_
    simp only [if_true]
    simp only [show m + (i : Int) * 3 + 1 + 1 = m + (i : Int) * 3 + 2 by omega, show m + (i : Int) * 3 + 2 + 1 = m + (i : Int) * 3 + 3 by omega, if_true, bne_self_eq_false, Bool.false_eq_true, if_false]
    rw [show m + (i : Int) * 3 + 3 = m + ((i + 1 : Nat) : Int) * 3 by omega]
    exact ih
theorem heldTallyS_ev (n : Nat) (hn : n ≤ 1000000000) (m : Int) (hm : 0 ≤ m ∧ m ≤ 1000000000000) : Ev (fun k => laws_heldTallyS.f k (marks vTally 3 n m) m) (m + (n : Int) * 3) := by
  have := heldTallyS_l0 n hn m hm n 0 (by omega)
  simpa [laws_heldTallyS.f] using this
theorem heldLiveS_l0 (n : Nat) (hn : n ≤ 1000000000) (m : Int) (hm : 0 ≤ m ∧ m ≤ 1000000000000) : ∀ d i, i + d = n → Ev (fun k => laws_heldLiveS.l0 k (marks vLive 6 n m) (m + i * 6) (i : Int)) (m + (n : Int) * 6)
  | 0, i, hi => by
    refine Ev.step (fun k => rfl) ?_
    simp only [laws_heldLiveS.l0, marks_len, if_neg (show ¬ (i : Int) < (n : Int) by omega)]
    rw [show i = n by omega]
    exact Ev.now _
  | d + 1, i, hi => by
    refine Ev.step (fun k => rfl) ?_
    have ih := heldLiveS_l0 n hn m hm d (i + 1) (by omega)
    have g : rd_T93 (marks vLive 6 n m) (i : Int) = (⟨(Int.tmod (m + (i : Int) * 6) 3 == 0), mt (m + (i : Int) * 6 + 1), mt (m + (i : Int) * 6 + 2), m + (i : Int) * 6 + 3, ⟨m + (i : Int) * 6 + 4, m + (i : Int) * 6 + 5⟩⟩ : S93) := by
      rw [rdI_Live, marks_get vLive 6 _ n m i (by omega)]; rfl
    simp only [laws_heldLiveS.l0, marks_len, if_pos (show (i : Int) < (n : Int) by omega), if_pos (show (0 : Int) ≤ (i : Int) by omega), wr i (by omega), g, wi (n := m + (i : Int) * 6 + 1) (by omega), wi (n := m + (i : Int) * 6 + 1 + 1) (by omega), wi (n := m + (i : Int) * 6 + 1 + 1 + 1) (by omega), wi (n := m + (i : Int) * 6 + 1 + 1 + 1 + 1) (by omega), wi (n := m + (i : Int) * 6 + 1 + 1 + 1 + 1 + 1) (by omega), wi (n := m + (i : Int) * 6 + 1 + 1 + 1 + 1 + 1 + 1) (by omega)]
    simp only [bne_self_eq_false, Bool.false_eq_true, if_false]
    refine Ev.bind (mt_ev (m + (i : Int) * 6 + 1) (by omega) (by omega)) ?_
    simp only [if_true]
    refine Ev.bind (mt_ev (m + (i : Int) * 6 + 1 + 1) (by omega) (by omega)) ?_
    rw [show m + (i : Int) * 6 + 1 + 1 = m + (i : Int) * 6 + 2 by omega]
    simp only [if_true]
    simp only [show m + (i : Int) * 6 + 1 + 1 = m + (i : Int) * 6 + 2 by omega, show m + (i : Int) * 6 + 2 + 1 = m + (i : Int) * 6 + 3 by omega, show m + (i : Int) * 6 + 3 + 1 = m + (i : Int) * 6 + 4 by omega, show m + (i : Int) * 6 + 4 + 1 = m + (i : Int) * 6 + 5 by omega, show m + (i : Int) * 6 + 5 + 1 = m + (i : Int) * 6 + 6 by omega, if_true, bne_self_eq_false, Bool.false_eq_true, if_false]
    rw [show m + (i : Int) * 6 + 6 = m + ((i + 1 : Nat) : Int) * 6 by omega]
    exact ih
theorem heldLiveS_ev (n : Nat) (hn : n ≤ 1000000000) (m : Int) (hm : 0 ≤ m ∧ m ≤ 1000000000000) : Ev (fun k => laws_heldLiveS.f k (marks vLive 6 n m) m) (m + (n : Int) * 6) := by
  have := heldLiveS_l0 n hn m hm n 0 (by omega)
  simpa [laws_heldLiveS.f] using this
theorem heldCellS_l0 (n : Nat) (hn : n ≤ 1000000000) (m : Int) (hm : 0 ≤ m ∧ m ≤ 1000000000000) : ∀ d i, i + d = n → Ev (fun k => laws_heldCellS.l0 k (marks vCell 8 n m) (m + i * 8) (i : Int)) (m + (n : Int) * 8)
  | 0, i, hi => by
    refine Ev.step (fun k => rfl) ?_
    simp only [laws_heldCellS.l0, marks_len, if_neg (show ¬ (i : Int) < (n : Int) by omega)]
    rw [show i = n by omega]
    exact Ev.now _
  | d + 1, i, hi => by
    refine Ev.step (fun k => rfl) ?_
    have ih := heldCellS_l0 n hn m hm d (i + 1) (by omega)
    have g : rd_T96 (marks vCell 8 n m) (i : Int) = (⟨mt (m + (i : Int) * 8), ⟨m + (i : Int) * 8 + 1, m + (i : Int) * 8 + 2⟩, m + (i : Int) * 8 + 3, ⟨m + (i : Int) * 8 + 4, m + (i : Int) * 8 + 5⟩, m + (i : Int) * 8 + 6, (Int.tmod (m + (i : Int) * 8 + 7) 3 == 0)⟩ : S96) := by
      rw [rdI_Cell, marks_get vCell 8 _ n m i (by omega)]; rfl
    simp only [laws_heldCellS.l0, marks_len, if_pos (show (i : Int) < (n : Int) by omega), if_pos (show (0 : Int) ≤ (i : Int) by omega), wr i (by omega), g, wi (n := m + (i : Int) * 8 + 1) (by omega), wi (n := m + (i : Int) * 8 + 1 + 1) (by omega), wi (n := m + (i : Int) * 8 + 1 + 1 + 1) (by omega), wi (n := m + (i : Int) * 8 + 1 + 1 + 1 + 1) (by omega), wi (n := m + (i : Int) * 8 + 1 + 1 + 1 + 1 + 1) (by omega), wi (n := m + (i : Int) * 8 + 1 + 1 + 1 + 1 + 1 + 1) (by omega), wi (n := m + (i : Int) * 8 + 1 + 1 + 1 + 1 + 1 + 1 + 1) (by omega), wi (n := m + (i : Int) * 8 + 1 + 1 + 1 + 1 + 1 + 1 + 1 + 1) (by omega)]
    refine Ev.bind (mt_ev (m + (i : Int) * 8) (by omega) (by omega)) ?_
    simp only [if_true]
    simp only [show m + (i : Int) * 8 + 1 + 1 = m + (i : Int) * 8 + 2 by omega, show m + (i : Int) * 8 + 2 + 1 = m + (i : Int) * 8 + 3 by omega, show m + (i : Int) * 8 + 3 + 1 = m + (i : Int) * 8 + 4 by omega, show m + (i : Int) * 8 + 4 + 1 = m + (i : Int) * 8 + 5 by omega, show m + (i : Int) * 8 + 5 + 1 = m + (i : Int) * 8 + 6 by omega, show m + (i : Int) * 8 + 6 + 1 = m + (i : Int) * 8 + 7 by omega, show m + (i : Int) * 8 + 7 + 1 = m + (i : Int) * 8 + 8 by omega, if_true, bne_self_eq_false, Bool.false_eq_true, if_false]
    rw [show m + (i : Int) * 8 + 8 = m + ((i + 1 : Nat) : Int) * 8 by omega]
    exact ih
theorem heldCellS_ev (n : Nat) (hn : n ≤ 1000000000) (m : Int) (hm : 0 ≤ m ∧ m ≤ 1000000000000) : Ev (fun k => laws_heldCellS.f k (marks vCell 8 n m) m) (m + (n : Int) * 8) := by
  have := heldCellS_l0 n hn m hm n 0 (by omega)
  simpa [laws_heldCellS.f] using this
theorem heldState_ev (a b c d : Nat) (ha : a ≤ 10000000) (hb : b ≤ 10000000) (hc : c ≤ 10000000) (hd : d ≤ 10000000) (m : Int) (hm : 0 ≤ m ∧ m ≤ 1000000000) :
    Ev (fun k => laws_heldState.f k (iota a m) (marks vTally 3 b (m + (a : Int))) (marks vLive 6 c (m + (a : Int) + (b : Int) * 3)) (marks vCell 8 d (m + (a : Int) + (b : Int) * 3 + (c : Int) * 6)) m) (m + (a : Int) + (b : Int) * 3 + (c : Int) * 6 + (d : Int) * 8) := by
  unfold laws_heldState.f
  refine Ev.bind (heldIntS_ev a (by omega) m (by omega)) ?_
  simp only [if_neg (show ¬ m + (a : Int) < 0 by omega)]
  refine Ev.bind (heldTallyS_ev b (by omega) _ (by omega)) ?_
  simp only [if_neg (show ¬ m + (a : Int) + (b : Int) * 3 < 0 by omega)]
  refine Ev.bind (heldLiveS_ev c (by omega) _ (by omega)) ?_
  simp only [if_neg (show ¬ m + (a : Int) + (b : Int) * 3 + (c : Int) * 6 < 0 by omega)]
  refine Ev.bind (heldCellS_ev d (by omega) _ (by omega)) ?_
  simp only [if_neg (show ¬ m + (a : Int) + (b : Int) * 3 + (c : Int) * 6 + (d : Int) * 8 < 0 by omega)]
  exact Ev.now _
theorem FnExactDoAll : laws_FnExactDoAll.Pure := by
  intro l0 l1 l2 l3 l h0 h1 h2 h3 hl
  refine Ev.rounds ?_
  unfold laws_FnExactDoAll.f
  obtain ⟨q, hq, hc⟩ := txState_ex l0 l1 l2 l3 h0.1 h1 h2 h3 1048576 (by omega)
  refine Ev.bind hq ?_
  by_cases c1 : q < 0
  · simp only [if_pos c1]; exact Ev.now _
  simp only [if_neg c1]
  obtain ⟨q1, q2, la, lb, lc, ld, tb, tc, td⟩ := hc.resolve_left c1
  obtain ⟨r, hr, hc⟩ := szActS_ex l hl.1 hl.2 q (by omega)
  refine Ev.bind hr ?_
  by_cases c2 : r < 0
  · simp only [if_pos c2]; exact Ev.now _
  simp only [if_neg c2]
  obtain ⟨_, _, ll, ls⟩ := hc.resolve_left c2
  have ln : l.length ≤ 1048576 := by omega
  have lm : (l.map toActC).length ≤ 1048576 := by rw [List.length_map]; exact ln
  have lk : ∀ x ∈ l, x.f2.length ≤ 1048576 := fun x hx => by have := ls x hx; unfold szdAct at this; omega
  have lf : ∀ y ∈ l.map toActC, FitA y := fun y hy => by
    obtain ⟨x, hx, rfl⟩ := List.mem_map.1 hy
    have := ls x hx
    unfold szdAct at this
    exact ⟨by show x.f2.length ≤ _; omega, by show x.f4.size ≤ _; omega, by show x.f5.size ≤ _; omega⟩
  have t := toState_ev l0 l1 l2 l3 (by omega) (by omega) (by omega) (by omega)
  have ta := toActS_ev l ln lk
  generalize l.map toActC = n at lm lf ta
  have hF : Fit l0 (l1.map toTallyC) (l2.map toLiveC) (l3.map toCellC) := by
    refine ⟨by omega, by rw [List.length_map]; omega, by rw [List.length_map]; omega, by rw [List.length_map]; omega, fun x hx => ?_, fun x hx => ?_, fun x hx => ?_⟩
    · obtain ⟨y, hy, rfl⟩ := List.mem_map.1 hx
      have := tb y hy
      unfold txTally at this
      show y.f0.size ≤ _
      omega
    · obtain ⟨y, hy, rfl⟩ := List.mem_map.1 hx
      have := tc y hy
      unfold txLive at this
      show y.f1.size ≤ _ ∧ y.f2.size ≤ _
      omega
    · obtain ⟨y, hy, rfl⟩ := List.mem_map.1 hx
      have := td y hy
      unfold txCell at this
      have g := h3.2 y hy
      refine ⟨by show y.f0.size ≤ _; omega, ?_⟩
      unfold cellWf
      show ((Lit.int .i64 y.f1.f0).wf && (Lit.int .i64 y.f1.f1).wf && ((Lit.int .i64 y.f3.f0).wf && (Lit.int .i64 y.f3.f1).wf)) = true
      rw [g.2.1.1, g.2.1.2, g.2.2.2.1.1, g.2.2.2.1.2]; rfl
  generalize l1.map toTallyC = m1 at t hF
  generalize l2.map toLiveC = m2 at t hF
  generalize l3.map toCellC = m3 at t hF
  obtain ⟨v0, v1, v2, v3, v4, s1, s2, ⟨z0, z1, z2, z3, _⟩, z4⟩ := da0_ev n lm lf n.length 0 l0 m1 m2 m3 [] (by omega) rfl hF
  obtain ⟨f0, f1, f2, f3, _⟩ := hF
  have d1 : Ev (fun k => spec_DoAll.f k l0 m1 m2 m3 n) (v0, v1, v2, v3, v4) := by
    unfold spec_DoAll.f
    simp only [spec_copy l0 m1 m2 m3 f0 f1 f2 f3, Option.bind_some]
    exact s1
  have d2 : Ev (fun k => impl_DoAll.f k l0 m1 m2 m3 n) (v0, v1, v2, v3, v4) := by
    unfold impl_DoAll.f
    simp only [impl_copy l0 m1 m2 m3 f0 f1 f2 f3, Option.bind_some]
    exact s2
  have ee := eqState_ev v0 v1 v2 v3 (by omega) (by omega) (by omega) (by omega)
  have ei := eqIntS_ev v4 (by omega)
  have em := eqState_ev l0 m1 m2 m3 (by omega) (by omega) (by omega) (by omega)
  have ea := eqActS_ev n (by omega) (fun x hx => (lf x hx).1)
  have mk := markState_ev l0 m1 m2 m3 (by omega) (by omega) (by omega) (by omega) 1 (by omega)
  obtain ⟨y, my, y0⟩ := markActS_ex2 n lm (fun x hx => (lf x hx).1) (1 + (l0.length : Int) + (m1.length : Int) * 3 + (m2.length : Int) * 6 + (m3.length : Int) * 8) (by omega)
  have mg := markState_ev v0 v1 v2 v3 (by omega) (by omega) (by omega) (by omega) 1 (by omega)
  have mi := markIntS_ev v4 (by omega) (1 + (v0.length : Int) + (v1.length : Int) * 3 + (v2.length : Int) * 6 + (v3.length : Int) * 8) (by omega)
  have hg := heldState_ev v0.length v1.length v2.length v3.length (by omega) (by omega) (by omega) (by omega) 1 (by omega)
  have hi := heldIntS_ev v4.length (by omega) (1 + (v0.length : Int) + (v1.length : Int) * 3 + (v2.length : Int) * 6 + (v3.length : Int) * 8) (by omega)
  unfold laws_FnExactDoAll.g
  refine Ev.bind t (Ev.bind ta (Ev.bind d1 (Ev.bind d2 ?_)))
  refine Ev.bind ee ?_
  simp only [if_true]
  refine Ev.bind ei ?_
  simp only [if_true]
  refine Ev.bind em ?_
  simp only [if_true]
  refine Ev.bind ea ?_
  simp only [if_true]
  refine Ev.bind mk ?_
  refine Ev.bind my ?_
  simp only [if_neg (show ¬ y.1 < 0 by omega)]
  refine Ev.bind mg ?_
  refine Ev.bind mi ?_
  refine Ev.bind hg ?_
  have hm : ¬ 1 + (v0.length : Int) + (v1.length : Int) * 3 + (v2.length : Int) * 6 + (v3.length : Int) * 8 < 0 := by omega
  simp only [if_neg hm]
  refine Ev.bind hi ?_
  have hn : ¬ 1 + (v0.length : Int) + (v1.length : Int) * 3 + (v2.length : Int) * 6 + (v3.length : Int) * 8 + (v4.length : Int) < 0 := by omega
  simp only [if_neg hn, if_true]
  exact Ev.now _
end Go.Proofs.YtbanogkoaplcdaaGreat.Pure
