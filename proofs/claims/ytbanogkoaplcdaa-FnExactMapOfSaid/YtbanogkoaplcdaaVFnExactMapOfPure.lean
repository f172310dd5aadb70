/- The program's MapOf tells of every state and two texts what the reference's MapOf tells, in new memory, and leaves the state as it was.
No condition beyond those of the given row. -/
import Derived.Test.YtbanogkoaplcdaaVFnExactMapOfQx0
import Derived.Test.YtbanogkoaplcdaaVFnExactMapOfQx1
import Derived.Test.YtbanogkoaplcdaaVFnExactMapOfQx2
import Derived.Test.YtbanogkoaplcdaaVFnExactMapOfQx3
import Derived.Test.YtbanogkoaplcdaaVFnExactMapOfQx4
import Derived.Test.YtbanogkoaplcdaaVFnExactMapOfQx5
import Derived.Test.YtbanogkoaplcdaaVFnExactMapOfQx6
import Derived.Test.YtbanogkoaplcdaaVFnExactMapOfQx7
import Derived.Test.YtbanogkoaplcdaaVFnExactMapOfQx8
import Derived.Test.YtbanogkoaplcdaaVFnExactMapOfQx9
import Derived.Test.YtbanogkoaplcdaaVFnExactMapOfQx10
import Derived.Test.YtbanogkoaplcdaaVFnExactMapOfQx11
import Derived.Test.YtbanogkoaplcdaaVFnExactMapOfQx12
import Derived.Test.YtbanogkoaplcdaaVFnExactMapOfQx13
import Derived.Test.YtbanogkoaplcdaaVFnExactMapOfQx14
import Derived.Test.YtbanogkoaplcdaaVFnExactMapOfQx23
import Derived.Test.YtbanogkoaplcdaaVFnExactMapOfQx24
import Derived.Test.YtbanogkoaplcdaaVFnExactMapOfSt
import Derived.Test.YtbanogkoaplcdaaVFnExactMapOfPlain
namespace Go.Proofs.Ytbanogkoaplcdaa.Pure
open Go.RowKit Go.Proofs.Ytbanogkoaplcdaa.QFnExactMapOf Go.Proofs.Ytbanogkoaplcdaa.Plain Go.Proofs.YtbanogkoaplcdaaW.PrintWords Go.Proofs.YtbanogkoaplcdaaW.PrintLast Go.Proofs.YtbanogkoaplcdaaW.PrintMore
set_option linter.unusedSimpArgs false
set_option linter.unusedVariables false
def insI (x : Int) : List Int → List Int
  | [] => [x]
  | v :: l => if v > x then x :: v :: l else v :: insI x l
theorem insI_len (x : Int) : ∀ l, (insI x l).length = l.length + 1
  | [] => rfl
  | v :: l => by
    unfold insI
    split
    · simp
    · simp [insI_len x l]
theorem insI_perm (x : Int) : ∀ l, (insI x l).Perm (x :: l)
  | [] => List.Perm.refl _
  | v :: l => by
    unfold insI
    split
    · exact List.Perm.refl _
    · exact ((insI_perm x l).cons v).trans (List.Perm.swap x v l)
theorem insI_mem (x y : Int) (l : List Int) : y ∈ insI x l ↔ y = x ∨ y ∈ l := by
  rw [(insI_perm x l).mem_iff, List.mem_cons]
theorem insI_sorted (x : Int) : ∀ l, l.Pairwise (fun a b => a ≤ b) → (insI x l).Pairwise (fun a b => a ≤ b)
  | [], _ => by simp [insI]
  | v :: l, h => by
    have h1 := List.pairwise_cons.1 h
    unfold insI
    split
    · refine List.pairwise_cons.2 ⟨fun y hy => ?_, h⟩
      rcases List.mem_cons.1 hy with h2 | h2
      · omega
      · have := h1.1 y h2; omega
    · refine List.pairwise_cons.2 ⟨fun y hy => ?_, insI_sorted x l h1.2⟩
      rcases (insI_mem x y l).1 hy with h2 | h2
      · omega
      · exact h1.1 y h2
def sortF : List Int → List Int → List Int
  | out, [] => out
  | out, x :: l => sortF (insI x out) l
theorem sortF_len : ∀ (l out : List Int), (sortF out l).length = out.length + l.length
  | [], out => by simp [sortF]
  | x :: l, out => by
    unfold sortF
    rw [sortF_len l, insI_len, List.length_cons]; omega
theorem sortF_perm : ∀ (l out : List Int), (sortF out l).Perm (l ++ out)
  | [], out => List.Perm.refl _
  | x :: l, out => by
    unfold sortF
    refine (sortF_perm l (insI x out)).trans ?_
    refine ((insI_perm x out).append_left l).trans ?_
    rw [List.cons_append]
    exact List.perm_middle
theorem sortF_sorted : ∀ (l out : List Int), out.Pairwise (fun a b => a ≤ b) → (sortF out l).Pairwise (fun a b => a ≤ b)
  | [], _, h => h
  | x :: l, out, h => sortF_sorted l _ (insI_sorted x out h)
theorem sortF_eq (l : List Int) : l.mergeSort (fun x y => decide (x ≤ y)) = sortF [] l := by
  have h1 := List.pairwise_mergeSort (le := fun x y : Int => decide (x ≤ y)) (fun a b c h1 h2 => by simp at *; omega) (fun a b => by simp; omega) l
  have h2 : (l.mergeSort (fun x y => decide (x ≤ y))).Pairwise (fun a b => a ≤ b) := h1.imp (fun h => by simpa using h)
  refine List.Perm.eq_of_pairwise (le := fun a b : Int => a ≤ b) (fun a b _ _ h3 h4 => by omega) h2 (sortF_sorted l [] List.Pairwise.nil) ?_
  refine (List.mergeSort_perm l _).trans ?_
  have := sortF_perm l []
  rw [List.append_nil] at this
  exact this.symm
theorem rdL_Live (l : List S115) (i : Nat) : rd_T115 l (i : Int) = l.getD i z115 := by unfold rd_T115; rw [Int.toNat_natCast]
theorem rdI_Live (l : List S86) (i : Nat) : rd_T86 l (i : Int) = l.getD i z86 := by unfold rd_T86; rw [Int.toNat_natCast]
def livesF (m : Bool) (o q : ByteArray) : List S86 → List S86 → List S86
  | [], out => out
  | x :: l, out => if (x.f0 == m) = true then (if x.f1.toList = o.toList then (if x.f2.toList = q.toList then livesF m o q l (out ++ [x]) else livesF m o q l out) else livesF m o q l out) else livesF m o q l out
theorem livesF_len (m : Bool) (o q : ByteArray) : ∀ (l out : List S86), (livesF m o q l out).length ≤ out.length + l.length
  | [], out => by simp [livesF]
  | x :: l, out => by
    have h1 := livesF_len m o q l (out ++ [x])
    have h2 := livesF_len m o q l out
    rw [List.length_append, List.length_singleton] at h1
    rw [List.length_cons]
    unfold livesF
    split
    · split
      · split <;> omega
      · omega
    · omega
theorem spec_LivesOf_l0 (a : List Int) (b : List S84) (c : List S73) (m : Bool) (o q : ByteArray) (l : List S86) (hl : l.length ≤ 1000000000) : ∀ d i out, i + d = l.length → out.length ≤ i → Ev (fun k => spec_LivesOf.l0 k m o q out (i : Int) a b l c) (livesF m o q (l.drop i) out)
  | 0, i, out, hi, ho => by
    refine Ev.step (fun k => rfl) ?_
    simp only [spec_LivesOf.l0, if_neg (show ¬ (i : Int) < (l.length : Int) by omega), List.drop_eq_nil_of_le (show l.length ≤ i by omega), livesF]
    exact Ev.now _
  | d + 1, i, out, hi, ho => by
    refine Ev.step (fun k => rfl) ?_
    have n1 := spec_LivesOf_l0 a b c m o q l hl d (i + 1) out (by omega) (by omega)
    have n2 := spec_LivesOf_l0 a b c m o q l hl d (i + 1) (out ++ [l.getD i z86]) (by omega) (by rw [List.length_append, List.length_singleton]; omega)
    simp only [spec_LivesOf.l0, if_pos (show (i : Int) < (l.length : Int) by omega), if_pos (show (0 : Int) ≤ (i : Int) by omega), wr i (by omega), rdI_Live, drop_getD l i z86 (by omega), livesF, if_pos (show out.length < 2199023255552 by omega)]
    by_cases c1 : ((l.getD i z86).f0 == m) = true
    · by_cases c2 : (l.getD i z86).f1.toList = o.toList
      · by_cases c3 : (l.getD i z86).f2.toList = q.toList
        · simp only [if_pos c1, if_pos c2, if_pos c3]; exact n2
        · simp only [if_pos c1, if_pos c2, if_neg c3]; exact n1
      · simp only [if_pos c1, if_neg c2]; exact n1
    · simp only [if_neg c1]; exact n1
theorem spec_LivesOf_ev (a : List Int) (b : List S84) (l : List S86) (c : List S73) (m : Bool) (o q : ByteArray) (hl : l.length ≤ 1000000000) : Ev (fun k => spec_LivesOf.f k a b l c m o q) (livesF m o q l []) := by
  have := spec_LivesOf_l0 a b c m o q l hl l.length 0 [] (by omega) (by simp)
  simpa [spec_LivesOf.f] using this
theorem spec_MapOf_l1 (L : List S86) (i : Nat) (hi : i < L.length) (hL : L.length ≤ 140737488351232) (v : List Int) (hv : v.length ≤ 2000000) (r : List Int)
    (h : Ev (fun k => spec_MapOf.l0 k (insI ((rd_T86 L (i : Int)).f3) v) L ((i + 1 : Nat) : Int)) r) : ∀ (d j : Nat) (out : List Int) (put : Bool), j + d = v.length → out.length ≤ 2 * j + 1 →
    insI ((rd_T86 L (i : Int)).f3) v = (if put = true then out ++ v.drop j else out ++ insI ((rd_T86 L (i : Int)).f3) (v.drop j)) → Ev (fun k => spec_MapOf.l1 k v L (i : Int) out put (j : Int)) r
  | 0, j, out, put, hj, ho, he => by
    refine Ev.step (fun k => rfl) ?_
    rw [List.drop_eq_nil_of_le (show v.length ≤ j by omega)] at he
    cases put with
    | true =>
      simp only [if_true, List.append_nil] at he
      simp only [spec_MapOf.l1, if_neg (show ¬ (j : Int) < (v.length : Int) by omega), if_true, wr i (by omega), ← he]
      exact h
    | false =>
      simp only [Bool.false_eq_true, if_false, insI] at he
      simp only [spec_MapOf.l1, if_neg (show ¬ (j : Int) < (v.length : Int) by omega), Bool.false_eq_true, if_false, if_pos (show (0 : Int) ≤ (i : Int) by omega), if_pos (show (i : Int) < (L.length : Int) by omega), if_pos (show out.length < 17592186044416 by omega), wr i (by omega), ← he]
      exact h
  | d + 1, j, out, put, hj, ho, he => by
    refine Ev.step (fun k => rfl) ?_
    rw [drop_rd v j (by omega)] at he
    cases put with
    | true =>
      simp only [if_true] at he
      simp only [spec_MapOf.l1, if_pos (show (j : Int) < (v.length : Int) by omega), if_true, if_pos (show (0 : Int) ≤ (j : Int) by omega), if_pos (show out.length < 17592186044416 by omega), wr j (by omega)]
      exact spec_MapOf_l1 L i hi hL v hv r h d (j + 1) _ true (by omega) (by rw [List.length_append]; simp; omega) (by simp only [if_true]; rw [he, List.append_assoc]; rfl)
    | false =>
      simp only [Bool.false_eq_true, if_false, insI] at he
      simp only [spec_MapOf.l1, if_pos (show (j : Int) < (v.length : Int) by omega), Bool.false_eq_true, if_false, if_pos (show (0 : Int) ≤ (j : Int) by omega), if_pos (show (0 : Int) ≤ (i : Int) by omega), if_pos (show (i : Int) < (L.length : Int) by omega), if_pos (show out.length < 17592186044416 by omega), wr j (by omega), Option.bind_some]
      by_cases c : rd v (j : Int) > (rd_T86 L (i : Int)).f3
      · rw [if_pos c] at he
        simp only [if_pos c, List.length_append, List.length_cons, List.length_nil, if_pos (show out.length + (0 + 1) < 17592186044416 by omega)]
        exact spec_MapOf_l1 L i hi hL v hv r h d (j + 1) _ true (by omega) (by rw [List.length_append, List.length_append]; simp; omega) (by simp only [if_true]; rw [he]; simp)
      · rw [if_neg c] at he
        simp only [if_neg c]
        exact spec_MapOf_l1 L i hi hL v hv r h d (j + 1) _ false (by omega) (by rw [List.length_append]; simp; omega) (by simp only [Bool.false_eq_true, if_false]; rw [he, List.append_assoc]; rfl)
theorem spec_MapOf_l0 (L : List S86) (hL : L.length ≤ 1048576) : ∀ (d i : Nat) (out : List Int), i + d = L.length → out.length ≤ i → Ev (fun k => spec_MapOf.l0 k out L (i : Int)) (sortF out ((L.drop i).map fun x => x.f3))
  | 0, i, out, hi, ho => by
    refine Ev.step (fun k => rfl) ?_
    simp only [spec_MapOf.l0, if_neg (show ¬ (i : Int) < (L.length : Int) by omega), List.drop_eq_nil_of_le (show L.length ≤ i by omega), List.map_nil, sortF]
    exact Ev.now _
  | d + 1, i, out, hi, ho => by
    refine Ev.step (fun k => rfl) ?_
    have e : L.drop i = rd_T86 L (i : Int) :: L.drop (i + 1) := by rw [rdI_Live]; exact drop_getD L i _ (by omega)
    simp only [spec_MapOf.l0, if_pos (show (i : Int) < (L.length : Int) by omega), e, List.map_cons, sortF]
    exact spec_MapOf_l1 L i (by omega) (by omega) out (by omega) _ (spec_MapOf_l0 L hL d (i + 1) _ (by omega) (by rw [insI_len]; omega)) out.length 0 [] false (by omega) (by simp) (by simp)
theorem spec_MapOf_ev (a : List Int) (b : List S84) (c : List S86) (d : List S73) (o q : ByteArray) (hc : c.length ≤ 1048576) : Ev (fun k => spec_MapOf.f k a b c d o q) (sortF [] ((livesF true o q c []).map fun x => x.f3)) := by
  unfold spec_MapOf.f
  refine Ev.bind (spec_LivesOf_ev a b c d true o q (by omega)) ?_
  have := livesF_len true o q c []
  have h := spec_MapOf_l0 (livesF true o q c []) (by simp at this; omega) (livesF true o q c []).length 0 [] (by omega) (by simp)
  rw [List.drop_zero] at h
  exact h
theorem impl_LivesOf_l0 (m : Bool) (o q : ByteArray) (l : List S86) (hl : l.length ≤ 1000000000) : ∀ d i out, i + d = l.length → out.length ≤ i → Ev (fun k => impl_LivesOf.l0 k m o q out l (l.length : Int) (i : Int)) (livesF m o q (l.drop i) out)
  | 0, i, out, hi, ho => by
    refine Ev.step (fun k => rfl) ?_
    simp only [impl_LivesOf.l0, if_neg (show ¬ (i : Int) < (l.length : Int) by omega), List.drop_eq_nil_of_le (show l.length ≤ i by omega), livesF]
    exact Ev.now _
  | d + 1, i, out, hi, ho => by
    refine Ev.step (fun k => rfl) ?_
    have n1 := impl_LivesOf_l0 m o q l hl d (i + 1) out (by omega) (by omega)
    have n2 := impl_LivesOf_l0 m o q l hl d (i + 1) (out ++ [l.getD i z86]) (by omega) (by rw [List.length_append, List.length_singleton]; omega)
    simp only [impl_LivesOf.l0, if_pos (show (i : Int) < (l.length : Int) by omega), if_pos (show (0 : Int) ≤ (i : Int) by omega), wr i (by omega), rdI_Live, drop_getD l i z86 (by omega), livesF, if_pos (show out.length < 2199023255552 by omega)]
    by_cases c1 : ((l.getD i z86).f0 == m) = true
    · by_cases c2 : (l.getD i z86).f1.toList = o.toList
      · by_cases c3 : (l.getD i z86).f2.toList = q.toList
        · simp only [if_pos c1, if_pos c2, if_pos c3]; exact n2
        · simp only [if_pos c1, if_pos c2, if_neg c3]; exact n1
      · simp only [if_pos c1, if_neg c2]; exact n1
    · simp only [if_neg c1]; exact n1
theorem impl_LivesOf_ev (a : List Int) (b : List S84) (l : List S86) (c : List S73) (m : Bool) (o q : ByteArray) (hl : l.length ≤ 1000000000) : Ev (fun k => impl_LivesOf.f k a b l c m o q) (livesF m o q l []) := by
  have := impl_LivesOf_l0 m o q l hl l.length 0 [] (by omega) (by simp)
  simpa [impl_LivesOf.f] using this
theorem impl_MapOf_l0 (L : List S86) (hL : L.length ≤ 1048576) : ∀ (d i : Nat) (out : List Int), i + d = L.length → out.length = i → Ev (fun k => impl_MapOf.l0 k out L (L.length : Int) (i : Int)) (sortF [] (out ++ (L.drop i).map fun x => x.f3))
  | 0, i, out, hi, ho => by
    refine Ev.step (fun k => rfl) ?_
    simp only [impl_MapOf.l0, if_neg (show ¬ (i : Int) < (L.length : Int) by omega), List.drop_eq_nil_of_le (show L.length ≤ i by omega), List.map_nil, List.append_nil, slices_Sort_int_int.f, if_pos (show out.length < 4611686018427387904 by omega), Option.bind_some, sortF_eq]
    exact Ev.now _
  | d + 1, i, out, hi, ho => by
    refine Ev.step (fun k => rfl) ?_
    have e : L.drop i = rd_T86 L (i : Int) :: L.drop (i + 1) := by rw [rdI_Live]; exact drop_getD L i _ (by omega)
    simp only [impl_MapOf.l0, if_pos (show (i : Int) < (L.length : Int) by omega), if_pos (show (0 : Int) ≤ (i : Int) by omega), if_pos (show out.length < 17592186044416 by omega), wr i (by omega), e, List.map_cons]
    have h := impl_MapOf_l0 L hL d (i + 1) (out ++ [(rd_T86 L (i : Int)).f3]) (by omega) (by rw [List.length_append, ho]; rfl)
    rw [List.append_assoc] at h
    exact h
theorem impl_MapOf_ev (a : List Int) (b : List S84) (c : List S86) (d : List S73) (o q : ByteArray) (hc : c.length ≤ 1048576) : Ev (fun k => impl_MapOf.f k a b c d o q) (sortF [] ((livesF true o q c []).map fun x => x.f3)) := by
  unfold impl_MapOf.f
  refine Ev.bind (impl_LivesOf_ev a b c d true o q (by omega)) ?_
  have := livesF_len true o q c []
  have h := impl_MapOf_l0 (livesF true o q c []) (by simp at this; omega) (livesF true o q c []).length 0 [] (by omega) rfl
  rw [List.drop_zero, List.nil_append] at h
  exact h
theorem rdL_Tally (l : List S112) (i : Nat) : rd_T112 l (i : Int) = l.getD i z112 := by unfold rd_T112; rw [Int.toNat_natCast]
theorem rdI_Tally (l : List S84) (i : Nat) : rd_T84 l (i : Int) = l.getD i z84 := by unfold rd_T84; rw [Int.toNat_natCast]
theorem szTally_ex (x : S112) (h0_ : x.f0.size ≤ 9223372036854775807) (left : Int) (h0 : 0 ≤ left ∧ left ≤ 1048576) : ∃ r, laws_szTally.f (x.f0) (x.f1) (x.f2) left = some r ∧ (r < 0 ∨ 0 ≤ r ∧ r ≤ left) := by
  unfold laws_szTally.f
  rw [wi (n := left - (x.f0.size : Int)) (by omega)]
  by_cases c : left - (x.f0.size : Int) < 0
  · exact ⟨-1, by rw [if_pos c], Or.inl (by omega)⟩
  · exact ⟨left - (x.f0.size : Int), by rw [if_neg c], Or.inr (by omega)⟩
theorem szTallyS_l0 (l : List S112) (hl : l.length ≤ 140737488351232) (hG : ∀ x ∈ l, G112 x) : ∀ d i left, i + d = l.length → (0 ≤ left ∧ left ≤ 1048576) → ∃ r, Ev (fun k => laws_szTallyS.l0 k l left (i : Int)) r ∧ (r < 0 ∨ 0 ≤ r ∧ r ≤ left)
  | 0, i, left, hi, h0 => ⟨left, by
    refine Ev.step (fun k => rfl) ?_
    simp only [laws_szTallyS.l0, if_neg (show ¬ (i : Int) < (l.length : Int) by omega)]
    exact Ev.now _, Or.inr (by omega)⟩
  | d + 1, i, left, hi, h0 => by
    have hm : l.getD i z112 ∈ l := by rw [getD_get l i _ (by omega)]; exact List.getElem_mem _
    have hg := hG _ hm
    obtain ⟨r, hr, hc⟩ := szTally_ex (l.getD i z112) hg.1 left h0
    by_cases c : r < 0
    · refine ⟨-1, ?_, Or.inl (by omega)⟩
      refine Ev.step (fun k => rfl) ?_
      simp only [laws_szTallyS.l0, if_pos (show (i : Int) < (l.length : Int) by omega), if_pos (show (0 : Int) ≤ (i : Int) by omega), rdL_Tally, hr, Option.bind_some, if_pos c]
      exact Ev.now _
    · obtain ⟨q, hq, hc2⟩ := szTallyS_l0 l hl hG d (i + 1) r (by omega) (by omega)
      refine ⟨q, ?_, by omega⟩
      refine Ev.step (fun k => rfl) ?_
      simp only [laws_szTallyS.l0, if_pos (show (i : Int) < (l.length : Int) by omega), if_pos (show (0 : Int) ≤ (i : Int) by omega), rdL_Tally, hr, Option.bind_some, if_neg c, wr i (by omega)]
      exact hq
theorem szTallyS_ex (l : List S112) (hl : l.length ≤ 9223372036854775807) (hG : ∀ x ∈ l, G112 x) (left : Int) (h0 : 0 ≤ left ∧ left ≤ 1048576) : ∃ r, Ev (fun k => laws_szTallyS.f k l left) r ∧ (r < 0 ∨ (0 ≤ r ∧ r ≤ left ∧ (l.length : Int) ≤ left)) := by
  unfold laws_szTallyS.f
  rw [wi (n := left - (l.length : Int)) (by omega)]
  by_cases c : left - (l.length : Int) < 0
  · exact ⟨-1, by simp only [if_pos c]; exact Ev.now _, Or.inl (by omega)⟩
  · obtain ⟨r, hr, hc⟩ := szTallyS_l0 l (by omega) hG l.length 0 (left - (l.length : Int)) (by omega) (by omega)
    exact ⟨r, by simp only [if_neg c]; exact hr, by omega⟩
theorem szLive_ex (x : S115) (h0_ : x.f1.size ≤ 9223372036854775807) (h1_ : x.f2.size ≤ 9223372036854775807) (left : Int) (h0 : 0 ≤ left ∧ left ≤ 1048576) : ∃ r, laws_szLive.f (x.f0) (x.f1) (x.f2) (x.f3) (x.f4.f0) (x.f4.f1) left = some r ∧ (r < 0 ∨ 0 ≤ r ∧ r ≤ left) := by
  unfold laws_szLive.f
  rw [wi (n := left - (x.f1.size : Int)) (by omega)]
  by_cases c : left - (x.f1.size : Int) < 0
  · exact ⟨-1, by rw [if_pos c], Or.inl (by omega)⟩
  · rw [if_neg c, wi (n := left - (x.f1.size : Int) - (x.f2.size : Int)) (by omega)]
    by_cases c2 : left - (x.f1.size : Int) - (x.f2.size : Int) < 0
    · exact ⟨-1, by rw [if_pos c2], Or.inl (by omega)⟩
    · exact ⟨_, by rw [if_neg c2], Or.inr (by omega)⟩
theorem szLiveS_l0 (l : List S115) (hl : l.length ≤ 140737488351232) (hG : ∀ x ∈ l, G115 x) : ∀ d i left, i + d = l.length → (0 ≤ left ∧ left ≤ 1048576) → ∃ r, Ev (fun k => laws_szLiveS.l0 k l left (i : Int)) r ∧ (r < 0 ∨ 0 ≤ r ∧ r ≤ left)
  | 0, i, left, hi, h0 => ⟨left, by
    refine Ev.step (fun k => rfl) ?_
    simp only [laws_szLiveS.l0, if_neg (show ¬ (i : Int) < (l.length : Int) by omega)]
    exact Ev.now _, Or.inr (by omega)⟩
  | d + 1, i, left, hi, h0 => by
    have hm : l.getD i z115 ∈ l := by rw [getD_get l i _ (by omega)]; exact List.getElem_mem _
    have hg := hG _ hm
    obtain ⟨r, hr, hc⟩ := szLive_ex (l.getD i z115) hg.2.1 hg.2.2.1 left h0
    by_cases c : r < 0
    · refine ⟨-1, ?_, Or.inl (by omega)⟩
      refine Ev.step (fun k => rfl) ?_
      simp only [laws_szLiveS.l0, if_pos (show (i : Int) < (l.length : Int) by omega), if_pos (show (0 : Int) ≤ (i : Int) by omega), rdL_Live, hr, Option.bind_some, if_pos c]
      exact Ev.now _
    · obtain ⟨q, hq, hc2⟩ := szLiveS_l0 l hl hG d (i + 1) r (by omega) (by omega)
      refine ⟨q, ?_, by omega⟩
      refine Ev.step (fun k => rfl) ?_
      simp only [laws_szLiveS.l0, if_pos (show (i : Int) < (l.length : Int) by omega), if_pos (show (0 : Int) ≤ (i : Int) by omega), rdL_Live, hr, Option.bind_some, if_neg c, wr i (by omega)]
      exact hq
theorem szLiveS_ex (l : List S115) (hl : l.length ≤ 9223372036854775807) (hG : ∀ x ∈ l, G115 x) (left : Int) (h0 : 0 ≤ left ∧ left ≤ 1048576) : ∃ r, Ev (fun k => laws_szLiveS.f k l left) r ∧ (r < 0 ∨ (0 ≤ r ∧ r ≤ left ∧ (l.length : Int) ≤ left)) := by
  unfold laws_szLiveS.f
  rw [wi (n := left - (l.length : Int)) (by omega)]
  by_cases c : left - (l.length : Int) < 0
  · exact ⟨-1, by simp only [if_pos c]; exact Ev.now _, Or.inl (by omega)⟩
  · obtain ⟨r, hr, hc⟩ := szLiveS_l0 l (by omega) hG l.length 0 (left - (l.length : Int)) (by omega) (by omega)
    exact ⟨r, by simp only [if_neg c]; exact hr, by omega⟩
theorem rdL_Cell (l : List S118) (i : Nat) : rd_T118 l (i : Int) = l.getD i z118 := by unfold rd_T118; rw [Int.toNat_natCast]
theorem rdI_Cell (l : List S73) (i : Nat) : rd_T73 l (i : Int) = l.getD i z73 := by unfold rd_T73; rw [Int.toNat_natCast]
theorem szCell_ex (x : S118) (h0_ : x.f0.size ≤ 9223372036854775807) (left : Int) (h0 : 0 ≤ left ∧ left ≤ 1048576) : ∃ r, laws_szCell.f (x.f0) (x.f1.f0) (x.f1.f1) (x.f2) (x.f3.f0) (x.f3.f1) (x.f4) (x.f5) left = some r ∧ (r < 0 ∨ 0 ≤ r ∧ r ≤ left) := by
  unfold laws_szCell.f
  rw [wi (n := left - (x.f0.size : Int)) (by omega)]
  by_cases c : left - (x.f0.size : Int) < 0
  · exact ⟨-1, by rw [if_pos c], Or.inl (by omega)⟩
  · exact ⟨left - (x.f0.size : Int), by rw [if_neg c], Or.inr (by omega)⟩
theorem szCellS_l0 (l : List S118) (hl : l.length ≤ 140737488351232) (hG : ∀ x ∈ l, G118 x) : ∀ d i left, i + d = l.length → (0 ≤ left ∧ left ≤ 1048576) → ∃ r, Ev (fun k => laws_szCellS.l0 k l left (i : Int)) r ∧ (r < 0 ∨ 0 ≤ r ∧ r ≤ left)
  | 0, i, left, hi, h0 => ⟨left, by
    refine Ev.step (fun k => rfl) ?_
    simp only [laws_szCellS.l0, if_neg (show ¬ (i : Int) < (l.length : Int) by omega)]
    exact Ev.now _, Or.inr (by omega)⟩
  | d + 1, i, left, hi, h0 => by
    have hm : l.getD i z118 ∈ l := by rw [getD_get l i _ (by omega)]; exact List.getElem_mem _
    have hg := hG _ hm
    obtain ⟨r, hr, hc⟩ := szCell_ex (l.getD i z118) hg.1 left h0
    by_cases c : r < 0
    · refine ⟨-1, ?_, Or.inl (by omega)⟩
      refine Ev.step (fun k => rfl) ?_
      simp only [laws_szCellS.l0, if_pos (show (i : Int) < (l.length : Int) by omega), if_pos (show (0 : Int) ≤ (i : Int) by omega), rdL_Cell, hr, Option.bind_some, if_pos c]
      exact Ev.now _
    · obtain ⟨q, hq, hc2⟩ := szCellS_l0 l hl hG d (i + 1) r (by omega) (by omega)
      refine ⟨q, ?_, by omega⟩
      refine Ev.step (fun k => rfl) ?_
      simp only [laws_szCellS.l0, if_pos (show (i : Int) < (l.length : Int) by omega), if_pos (show (0 : Int) ≤ (i : Int) by omega), rdL_Cell, hr, Option.bind_some, if_neg c, wr i (by omega)]
      exact hq
theorem szCellS_ex (l : List S118) (hl : l.length ≤ 9223372036854775807) (hG : ∀ x ∈ l, G118 x) (left : Int) (h0 : 0 ≤ left ∧ left ≤ 1048576) : ∃ r, Ev (fun k => laws_szCellS.f k l left) r ∧ (r < 0 ∨ (0 ≤ r ∧ r ≤ left ∧ (l.length : Int) ≤ left)) := by
  unfold laws_szCellS.f
  rw [wi (n := left - (l.length : Int)) (by omega)]
  by_cases c : left - (l.length : Int) < 0
  · exact ⟨-1, by simp only [if_pos c]; exact Ev.now _, Or.inl (by omega)⟩
  · obtain ⟨r, hr, hc⟩ := szCellS_l0 l (by omega) hG l.length 0 (left - (l.length : Int)) (by omega) (by omega)
    exact ⟨r, by simp only [if_neg c]; exact hr, by omega⟩
theorem szState_ex (a : List Int) (b : List S112) (c : List S115) (d : List S118) (ha : a.length ≤ 9223372036854775807) (hb : b.length ≤ 9223372036854775807 ∧ ∀ x ∈ b, G112 x) (hc : c.length ≤ 9223372036854775807 ∧ ∀ x ∈ c, G115 x) (hd : d.length ≤ 9223372036854775807 ∧ ∀ x ∈ d, G118 x)
    (left : Int) (h0 : 0 ≤ left ∧ left ≤ 1048576) : ∃ r, Ev (fun k => laws_szState.f k a b c d left) r ∧ (r < 0 ∨ (0 ≤ r ∧ r ≤ left ∧ (a.length : Int) ≤ left ∧ (b.length : Int) ≤ left ∧ (c.length : Int) ≤ left ∧ (d.length : Int) ≤ left)) := by
  unfold laws_szState.f laws_szIntS.f
  rw [wi (n := left - (a.length : Int)) (by omega)]
  by_cases c1 : left - (a.length : Int) < 0
  · exact ⟨-1, by simp only [if_pos c1, Option.bind_some, if_pos (show (-1 : Int) < 0 by omega)]; exact Ev.now _, Or.inl (by omega)⟩
  simp only [if_neg c1, Option.bind_some]
  obtain ⟨r1, e1, q1⟩ := szTallyS_ex b hb.1 hb.2 (left - (a.length : Int)) (by omega)
  by_cases c2 : r1 < 0
  · exact ⟨-1, Ev.bind e1 (by simp only [if_pos c2]; exact Ev.now _), Or.inl (by omega)⟩
  obtain ⟨r2, e2, q2⟩ := szLiveS_ex c hc.1 hc.2 r1 (by omega)
  by_cases c3 : r2 < 0
  · exact ⟨-1, Ev.bind e1 (by simp only [if_neg c2]; exact Ev.bind e2 (by simp only [if_pos c3]; exact Ev.now _)), Or.inl (by omega)⟩
  obtain ⟨r3, e3, q3⟩ := szCellS_ex d hd.1 hd.2 r2 (by omega)
  by_cases c4 : r3 < 0
  · exact ⟨-1, Ev.bind e1 (by simp only [if_neg c2]; exact Ev.bind e2 (by simp only [if_neg c3]; exact Ev.bind e3 (by simp only [if_pos c4]; exact Ev.now _))), Or.inl (by omega)⟩
  · exact ⟨r3, Ev.bind e1 (by simp only [if_neg c2]; exact Ev.bind e2 (by simp only [if_neg c3]; exact Ev.bind e3 (by simp only [if_neg c4]; exact Ev.now _))), Or.inr (by omega)⟩
theorem toIntS_l0 (l : List Int) (hl : l.length ≤ 140737488351232) : ∀ d i, i + d = l.length → Ev (fun k => laws_toIntS.l0 k l (l.take i ++ List.replicate d 0) (i : Int)) l
  | 0, i, hi => by
    refine Ev.step (fun k => rfl) ?_
    simp only [laws_toIntS.l0, if_neg (show ¬ (i : Int) < (l.length : Int) by omega)]
    rw [show l.take i ++ List.replicate 0 0 = l by rw [List.take_of_length_le (by omega)]; simp]
    exact Ev.now _
  | d + 1, i, hi => by
    refine Ev.step (fun k => rfl) ?_
    have ih := toIntS_l0 l hl d (i + 1) (by omega)
    have e : (l.take i ++ List.replicate (d + 1) 0).set (i : Int).toNat (rd l (i : Int)) = l.take (i + 1) ++ List.replicate d 0 := take_set l 0 i d (by omega)
    simp only [laws_toIntS.l0, if_pos (show (i : Int) < (l.length : Int) by omega), if_pos (show (0 : Int) ≤ (i : Int) by omega), wr i (by omega),
      if_pos (show (i : Int) < ((l.take i ++ List.replicate (d + 1) 0).length : Int) by rw [List.length_append, List.length_take, List.length_replicate]; omega), e]
    exact ih
theorem toIntS_ev (l : List Int) (hl : l.length ≤ 17592186043904) : Ev (fun k => laws_toIntS.f k l) l := by
  unfold laws_toIntS.f
  simp only [if_pos (show (0 : Int) ≤ (l.length : Int) by omega), Int.toNat_natCast, if_pos (show l.length ≤ 35184372088832 by omega)]
  exact toIntS_l0 l (by omega) l.length 0 (by omega)
theorem toDot_eq (r s : Int) : laws_toDot.f r s = some (r, s) := rfl
def toTallyC (x : S112) : S84 := ⟨x.f0, x.f1, x.f2⟩
theorem toTallyS_l0 (l : List S112) (hl : l.length ≤ 140737488351232) : ∀ d i, i + d = l.length → Ev (fun k => laws_toTallyS.l0 k l ((l.map toTallyC).take i ++ List.replicate d z84) (i : Int)) (l.map toTallyC)
  | 0, i, hi => by
    refine Ev.step (fun k => rfl) ?_
    simp only [laws_toTallyS.l0, if_neg (show ¬ (i : Int) < (l.length : Int) by omega)]
    rw [show (l.map toTallyC).take i ++ List.replicate 0 z84 = l.map toTallyC by rw [List.take_of_length_le (by rw [List.length_map]; omega)]; simp]
    exact Ev.now _
  | d + 1, i, hi => by
    refine Ev.step (fun k => rfl) ?_
    have ih := toTallyS_l0 l hl d (i + 1) (by omega)
    have e := set_mid (l.map toTallyC) z84 (toTallyC (l.getD i z112)) i d (by rw [List.length_map]; omega) (by rw [List.getElem_map, getD_get l i _ (by omega)])
    simp only [laws_toTallyS.l0, if_pos (show (i : Int) < (l.length : Int) by omega), if_pos (show (0 : Int) ≤ (i : Int) by omega), wr i (by omega), rdL_Tally, laws_toTally.f, Option.bind_some,
      if_pos (show (i : Int) < (((l.map toTallyC).take i ++ List.replicate (d + 1) z84).length : Int) by rw [List.length_append, List.length_take, List.length_replicate, List.length_map]; omega)]
    rw [show (⟨(l.getD i z112).f0, (l.getD i z112).f1, (l.getD i z112).f2⟩ : S84) = toTallyC (l.getD i z112) from rfl, e]
    exact ih
theorem toTallyS_ev (l : List S112) (hl : l.length ≤ 1048576) : Ev (fun k => laws_toTallyS.f k l) (l.map toTallyC) := by
  unfold laws_toTallyS.f
  simp only [if_pos (show (0 : Int) ≤ (l.length : Int) by omega), Int.toNat_natCast, if_pos (show l.length ≤ 8796093022208 by omega)]
  exact toTallyS_l0 l (by omega) l.length 0 (by omega)
def toLiveC (x : S115) : S86 := ⟨x.f0, x.f1, x.f2, x.f3, ⟨x.f4.f0, x.f4.f1⟩⟩
theorem toLiveS_l0 (l : List S115) (hl : l.length ≤ 140737488351232) : ∀ d i, i + d = l.length → Ev (fun k => laws_toLiveS.l0 k l ((l.map toLiveC).take i ++ List.replicate d z86) (i : Int)) (l.map toLiveC)
  | 0, i, hi => by
    refine Ev.step (fun k => rfl) ?_
    simp only [laws_toLiveS.l0, if_neg (show ¬ (i : Int) < (l.length : Int) by omega)]
    rw [show (l.map toLiveC).take i ++ List.replicate 0 z86 = l.map toLiveC by rw [List.take_of_length_le (by rw [List.length_map]; omega)]; simp]
    exact Ev.now _
  | d + 1, i, hi => by
    refine Ev.step (fun k => rfl) ?_
    have ih := toLiveS_l0 l hl d (i + 1) (by omega)
    have e := set_mid (l.map toLiveC) z86 (toLiveC (l.getD i z115)) i d (by rw [List.length_map]; omega) (by rw [List.getElem_map, getD_get l i _ (by omega)])
    simp only [laws_toLiveS.l0, if_pos (show (i : Int) < (l.length : Int) by omega), if_pos (show (0 : Int) ≤ (i : Int) by omega), wr i (by omega), rdL_Live, laws_toLive.f, toDot_eq, Option.bind_some,
      if_pos (show (i : Int) < (((l.map toLiveC).take i ++ List.replicate (d + 1) z86).length : Int) by rw [List.length_append, List.length_take, List.length_replicate, List.length_map]; omega)]
    rw [show (⟨(l.getD i z115).f0, (l.getD i z115).f1, (l.getD i z115).f2, (l.getD i z115).f3, ⟨(l.getD i z115).f4.f0, (l.getD i z115).f4.f1⟩⟩ : S86) = toLiveC (l.getD i z115) from rfl, e]
    exact ih
theorem toLiveS_ev (l : List S115) (hl : l.length ≤ 1048576) : Ev (fun k => laws_toLiveS.f k l) (l.map toLiveC) := by
  unfold laws_toLiveS.f
  simp only [if_pos (show (0 : Int) ≤ (l.length : Int) by omega), Int.toNat_natCast, if_pos (show l.length ≤ 4398046511104 by omega)]
  exact toLiveS_l0 l (by omega) l.length 0 (by omega)
def toCellC (x : S118) : S73 := ⟨x.f0, ⟨x.f1.f0, x.f1.f1⟩, x.f2, ⟨x.f3.f0, x.f3.f1⟩, x.f4, x.f5⟩
theorem toCellS_l0 (l : List S118) (hl : l.length ≤ 140737488351232) : ∀ d i, i + d = l.length → Ev (fun k => laws_toCellS.l0 k l ((l.map toCellC).take i ++ List.replicate d z73) (i : Int)) (l.map toCellC)
  | 0, i, hi => by
    refine Ev.step (fun k => rfl) ?_
    simp only [laws_toCellS.l0, if_neg (show ¬ (i : Int) < (l.length : Int) by omega)]
    rw [show (l.map toCellC).take i ++ List.replicate 0 z73 = l.map toCellC by rw [List.take_of_length_le (by rw [List.length_map]; omega)]; simp]
    exact Ev.now _
  | d + 1, i, hi => by
    refine Ev.step (fun k => rfl) ?_
    have ih := toCellS_l0 l hl d (i + 1) (by omega)
    have e := set_mid (l.map toCellC) z73 (toCellC (l.getD i z118)) i d (by rw [List.length_map]; omega) (by rw [List.getElem_map, getD_get l i _ (by omega)])
    simp only [laws_toCellS.l0, if_pos (show (i : Int) < (l.length : Int) by omega), if_pos (show (0 : Int) ≤ (i : Int) by omega), wr i (by omega), rdL_Cell, laws_toCell.f, toDot_eq, Option.bind_some,
      if_pos (show (i : Int) < (((l.map toCellC).take i ++ List.replicate (d + 1) z73).length : Int) by rw [List.length_append, List.length_take, List.length_replicate, List.length_map]; omega)]
    rw [show (⟨(l.getD i z118).f0, ⟨(l.getD i z118).f1.f0, (l.getD i z118).f1.f1⟩, (l.getD i z118).f2, ⟨(l.getD i z118).f3.f0, (l.getD i z118).f3.f1⟩, (l.getD i z118).f4, (l.getD i z118).f5⟩ : S73) = toCellC (l.getD i z118) from rfl, e]
    exact ih
theorem toCellS_ev (l : List S118) (hl : l.length ≤ 1048576) : Ev (fun k => laws_toCellS.f k l) (l.map toCellC) := by
  unfold laws_toCellS.f
  simp only [if_pos (show (0 : Int) ≤ (l.length : Int) by omega), Int.toNat_natCast, if_pos (show l.length ≤ 3909374676536 by omega)]
  exact toCellS_l0 l (by omega) l.length 0 (by omega)
theorem toState_ev (a : List Int) (b : List S112) (c : List S115) (d : List S118) (ha : a.length ≤ 1048576) (hb : b.length ≤ 1048576) (hc : c.length ≤ 1048576) (hd : d.length ≤ 1048576) :
    Ev (fun k => laws_toState.f k a b c d) (a, b.map toTallyC, c.map toLiveC, d.map toCellC) := by
  unfold laws_toState.f
  exact Ev.bind (toIntS_ev a (by omega)) (Ev.bind (toTallyS_ev b hb) (Ev.bind (toLiveS_ev c hc) (Ev.bind (toCellS_ev d hd) (Ev.now _))))
theorem eqIntS_l0 (l : List Int) (hl : l.length ≤ 140737488351232) : ∀ d i, i + d = l.length → Ev (fun k => laws_eqIntS.l0 k l l (i : Int)) true
  | 0, i, hi => by
    refine Ev.step (fun k => rfl) ?_
    simp only [laws_eqIntS.l0, if_neg (show ¬ (i : Int) < (l.length : Int) by omega)]
    exact Ev.now _
  | d + 1, i, hi => by
    refine Ev.step (fun k => rfl) ?_
    simp only [laws_eqIntS.l0, if_pos (show (i : Int) < (l.length : Int) by omega), if_pos (show (0 : Int) ≤ (i : Int) by omega), if_true, wr i (by omega)]
    exact eqIntS_l0 l hl d (i + 1) (by omega)
theorem eqIntS_ev (l : List Int) (hl : l.length ≤ 140737488351232) : Ev (fun k => laws_eqIntS.f k l l) true := by
  unfold laws_eqIntS.f
  simp only [if_true]
  exact eqIntS_l0 l hl l.length 0 (by omega)
theorem eqDot_refl (r s : Int) : laws_eqDot.f r s r s = some true := by simp [laws_eqDot.f]
theorem eqTally_refl (x : S84) : laws_eqTally.f (x.f0) (x.f1) (x.f2) (x.f0) (x.f1) (x.f2) = some true := by simp [laws_eqTally.f]
theorem eqTallyS_l0 (l : List S84) (hl : l.length ≤ 140737488351232) : ∀ d i, i + d = l.length → Ev (fun k => laws_eqTallyS.l0 k l l (i : Int)) true
  | 0, i, hi => by
    refine Ev.step (fun k => rfl) ?_
    simp only [laws_eqTallyS.l0, if_neg (show ¬ (i : Int) < (l.length : Int) by omega)]
    exact Ev.now _
  | d + 1, i, hi => by
    refine Ev.step (fun k => rfl) ?_
    simp only [laws_eqTallyS.l0, if_pos (show (i : Int) < (l.length : Int) by omega), if_pos (show (0 : Int) ≤ (i : Int) by omega), eqTally_refl, Option.bind_some, if_true, wr i (by omega)]
    exact eqTallyS_l0 l hl d (i + 1) (by omega)
theorem eqTallyS_ev (l : List S84) (hl : l.length ≤ 140737488351232) : Ev (fun k => laws_eqTallyS.f k l l) true := by
  unfold laws_eqTallyS.f
  simp only [if_true]
  exact eqTallyS_l0 l hl l.length 0 (by omega)
theorem eqLive_refl (x : S86) : laws_eqLive.f (x.f0) (x.f1) (x.f2) (x.f3) (x.f4.f0) (x.f4.f1) (x.f0) (x.f1) (x.f2) (x.f3) (x.f4.f0) (x.f4.f1) = some true := by simp [laws_eqLive.f, eqDot_refl]
theorem eqLiveS_l0 (l : List S86) (hl : l.length ≤ 140737488351232) : ∀ d i, i + d = l.length → Ev (fun k => laws_eqLiveS.l0 k l l (i : Int)) true
  | 0, i, hi => by
    refine Ev.step (fun k => rfl) ?_
    simp only [laws_eqLiveS.l0, if_neg (show ¬ (i : Int) < (l.length : Int) by omega)]
    exact Ev.now _
  | d + 1, i, hi => by
    refine Ev.step (fun k => rfl) ?_
    simp only [laws_eqLiveS.l0, if_pos (show (i : Int) < (l.length : Int) by omega), if_pos (show (0 : Int) ≤ (i : Int) by omega), eqLive_refl, Option.bind_some, if_true, wr i (by omega)]
    exact eqLiveS_l0 l hl d (i + 1) (by omega)
theorem eqLiveS_ev (l : List S86) (hl : l.length ≤ 140737488351232) : Ev (fun k => laws_eqLiveS.f k l l) true := by
  unfold laws_eqLiveS.f
  simp only [if_true]
  exact eqLiveS_l0 l hl l.length 0 (by omega)
theorem eqCell_refl (x : S73) : laws_eqCell.f (x.f0) (x.f1.f0) (x.f1.f1) (x.f2) (x.f3.f0) (x.f3.f1) (x.f4) (x.f5) (x.f0) (x.f1.f0) (x.f1.f1) (x.f2) (x.f3.f0) (x.f3.f1) (x.f4) (x.f5) = some true := by simp [laws_eqCell.f, eqDot_refl]
theorem eqCellS_l0 (l : List S73) (hl : l.length ≤ 140737488351232) : ∀ d i, i + d = l.length → Ev (fun k => laws_eqCellS.l0 k l l (i : Int)) true
  | 0, i, hi => by
    refine Ev.step (fun k => rfl) ?_
    simp only [laws_eqCellS.l0, if_neg (show ¬ (i : Int) < (l.length : Int) by omega)]
    exact Ev.now _
  | d + 1, i, hi => by
    refine Ev.step (fun k => rfl) ?_
    simp only [laws_eqCellS.l0, if_pos (show (i : Int) < (l.length : Int) by omega), if_pos (show (0 : Int) ≤ (i : Int) by omega), eqCell_refl, Option.bind_some, if_true, wr i (by omega)]
    exact eqCellS_l0 l hl d (i + 1) (by omega)
theorem eqCellS_ev (l : List S73) (hl : l.length ≤ 140737488351232) : Ev (fun k => laws_eqCellS.f k l l) true := by
  unfold laws_eqCellS.f
  simp only [if_true]
  exact eqCellS_l0 l hl l.length 0 (by omega)
theorem eqState_ev (a : List Int) (b : List S84) (c : List S86) (d : List S73) (ha : a.length ≤ 140737488351232) (hb : b.length ≤ 140737488351232) (hc : c.length ≤ 140737488351232) (hd : d.length ≤ 140737488351232) :
    Ev (fun k => laws_eqState.f k a b c d a b c d) true := by
  unfold laws_eqState.f
  refine Ev.bind (eqIntS_ev a ha) ?_
  simp only [if_true]
  refine Ev.bind (eqTallyS_ev b hb) ?_
  simp only [if_true]
  refine Ev.bind (eqLiveS_ev c hc) ?_
  simp only [if_true]
  exact Ev.bind (eqCellS_ev d hd) (Ev.now _)
def iota : Nat → Int → List Int
  | 0, _ => []
  | n + 1, m => m :: iota n (m + 1)
theorem iota_len : ∀ n m, (iota n m).length = n
  | 0, _ => rfl
  | n + 1, m => by simp [iota, iota_len n]
theorem iota_snoc : ∀ n m, iota (n + 1) m = iota n m ++ [m + n]
  | 0, m => by simp [iota]
  | n + 1, m => by
    rw [show iota (n + 1 + 1) m = m :: iota (n + 1) (m + 1) from rfl, iota_snoc n (m + 1)]
    simp [iota]; omega
theorem iota_rd : ∀ n m (i : Nat), i < n → rd (iota n m) (i : Int) = m + i
  | 0, _, i, h => by omega
  | n + 1, m, 0, _ => by simp [iota, rd]
  | n + 1, m, i + 1, h => by
    have := iota_rd n (m + 1) i (by omega)
    simp [iota, rd] at this ⊢
    omega
theorem markIntS_l0 (l : List Int) (hl : l.length ≤ 140737488351232) (m : Int) (hm : 0 ≤ m ∧ m ≤ 1000000000000) : ∀ d i, i + d = l.length → Ev (fun k => laws_markIntS.l0 k (iota i m ++ l.drop i) (m + i) (i : Int)) (m + (l.length : Int), iota l.length m)
  | 0, i, hi => by
    refine Ev.step (fun k => rfl) ?_
    have e : (iota i m ++ l.drop i) = iota l.length m := by rw [List.drop_eq_nil_of_le (by omega), show i = l.length by omega, List.append_nil]
    simp only [laws_markIntS.l0, e, iota_len, if_neg (show ¬ (i : Int) < (l.length : Int) by omega)]
    rw [show (i : Int) = (l.length : Int) by omega]
    exact Ev.now _
  | d + 1, i, hi => by
    refine Ev.step (fun k => rfl) ?_
    have ih := markIntS_l0 l hl m hm d (i + 1) (by omega)
    have hlen : (iota i m ++ l.drop i).length = l.length := by rw [List.length_append, iota_len, List.length_drop]; omega
    have e : (iota i m ++ l.drop i).set (i : Int).toNat (m + i) = iota (i + 1) m ++ l.drop (i + 1) := by
      rw [Int.toNat_natCast, List.set_append_right _ _ (by rw [iota_len]; omega), iota_len, Nat.sub_self, drop_rd l i (by omega), List.set_cons_zero, iota_snoc, List.append_assoc]
      rfl
    simp only [laws_markIntS.l0, hlen, if_pos (show (i : Int) < (l.length : Int) by omega), if_pos (show (0 : Int) ≤ (i : Int) by omega), wr i (by omega), e, wi (n := m + i + 1) (by omega)]
    rw [show m + (i : Int) + 1 = m + ((i + 1 : Nat) : Int) by omega]
    exact ih
theorem markIntS_ev (l : List Int) (hl : l.length ≤ 140737488351232) (m : Int) (hm : 0 ≤ m ∧ m ≤ 1000000000000) : Ev (fun k => laws_markIntS.f k l m) (m + (l.length : Int), iota l.length m) := by
  have := markIntS_l0 l hl m hm l.length 0 (by omega)
  simpa [laws_markIntS.f, iota] using this
def p10 (d : Nat) : Int := 10 ^ d
theorem p10_succ (d : Nat) : p10 (d + 1) = 10 * p10 d := by unfold p10; rw [Int.pow_succ]; omega
theorem p10_zero : p10 0 = 1 := rfl
def mtF : Nat → Int → ByteArray → ByteArray
  | 0, _, out => (⟨#[109]⟩ : ByteArray) ++ out
  | d + 1, x, out => if x > 0 then mtF d (x / 10) (strOfNums [(48 + x % 10) % 256] ++ out) else (⟨#[109]⟩ : ByteArray) ++ out
def mt (x : Int) : ByteArray := if x ≤ 0 then (⟨#[109, 48]⟩ : ByteArray) else mtF 20 x (⟨#[]⟩ : ByteArray)
theorem markText_l0 : ∀ (d : Nat) (x : Int) (out : ByteArray), 0 ≤ x → x ≤ 9223372036854775807 → x < p10 d → out.size + d ≤ 1000 → Ev (fun k => laws_markText.l0 k x out) (mtF d x out)
  | 0, x, out, h0, hm, hx, ho => by
    rw [p10_zero] at hx
    refine Ev.step (fun k => rfl) ?_
    simp only [laws_markText.l0, if_neg (show ¬ x > 0 by omega), if_pos (show 1 + out.size ≤ 9223372036854775807 by omega), mtF]
    exact Ev.now _
  | d + 1, x, out, h0, hm, hx, ho => by
    rw [p10_succ] at hx
    refine Ev.step (fun k => rfl) ?_
    by_cases c : x > 0
    · have e1 : wrap64 (Int.tdiv x 10) = x / 10 := by rw [Int.tdiv_eq_ediv_of_nonneg h0]; exact wi (by omega)
      have e2 : (wrap64 (48 + Int.tmod x 10)) % 256 = (48 + x % 10) % 256 := by rw [Int.tmod_eq_emod_of_nonneg h0, wi (by omega)]
      have hz : (strOfNums [(48 + x % 10) % 256]).size = 1 := by rw [strOfNums_size]; rfl
      simp only [laws_markText.l0, if_pos c, Option.bind_some, e1, e2, hz, if_pos (show 1 + out.size ≤ 9223372036854775807 by omega), mtF]
      exact markText_l0 d (x / 10) _ (by omega) (by omega) (by omega) (by rw [ByteArray.size_append, hz]; omega)
    · simp only [laws_markText.l0, if_neg c, if_pos (show 1 + out.size ≤ 9223372036854775807 by omega), mtF]
      exact Ev.now _
theorem mt_ev (x : Int) (h0 : 0 ≤ x) (hm : x ≤ 9000000000000000) : Ev (fun k => laws_markText.f k x) (mt x) := by
  unfold laws_markText.f mt
  by_cases c : x ≤ 0
  · simp only [if_pos c]; exact Ev.now _
  · simp only [if_neg c]
    exact markText_l0 20 x _ h0 (by omega) (by unfold p10; omega) (by decide)
def vTally (m : Int) : S84 := ⟨mt m, m + 1, m + 2⟩
theorem markTallyS_l0 (l : List S84) (hl : l.length ≤ 1000000000) (m : Int) (hm : 0 ≤ m ∧ m ≤ 1000000000000) : ∀ d i, i + d = l.length → Ev (fun k => laws_markTallyS.l0 k (marks vTally 3 i m ++ l.drop i) (m + i * 3) (i : Int)) (m + (l.length : Int) * 3, marks vTally 3 l.length m)
  | 0, i, hi => by
    refine Ev.step (fun k => rfl) ?_
    simp only [laws_markTallyS.l0, marks_mid vTally 3 l m i (by omega), if_neg (show ¬ (i : Int) < (l.length : Int) by omega)]
    rw [List.drop_eq_nil_of_le (show l.length ≤ i by omega), List.append_nil, show i = l.length by omega]
    exact Ev.now _
  | d + 1, i, hi => by
    refine Ev.step (fun k => rfl) ?_
    have ih := markTallyS_l0 l hl m hm d (i + 1) (by omega)
    have hlen := marks_mid vTally 3 l m i (by omega)
    have rdset : ∀ x : S84, rd_T84 ((marks vTally 3 i m ++ l.drop i).set (i : Int).toNat x) (i : Int) = x := fun x => by
      rw [rdI_Tally, Int.toNat_natCast, getD_set _ _ _ _ (Nat.lt_of_lt_of_eq (show i < l.length by omega) hlen.symm)]
    have hset := marks_set vTally 3 l m i (by omega) _ rfl
    rw [show vTally (m + (i : Int) * 3) = (⟨mt (m + (i : Int) * 3), m + (i : Int) * 3 + 1, m + (i : Int) * 3 + 2⟩ : S84) from rfl] at hset
    simp only [laws_markTallyS.l0, hlen, if_pos (show (i : Int) < (l.length : Int) by omega), if_pos (show (0 : Int) ≤ (i : Int) by omega), wr i (by omega), Option.bind_some, List.set_set, rdset, wi (n := m + (i : Int) * 3 + 1) (by omega), wi (n := m + (i : Int) * 3 + 1 + 1) (by omega), wi (n := m + (i : Int) * 3 + 1 + 1 + 1) (by omega)]
    refine Ev.bind (mt_ev (m + (i : Int) * 3) (by omega) (by omega)) ?_
    (try simp only [Option.bind_some, List.set_set, rdset])
    simp only [show m + (i : Int) * 3 + 1 + 1 = m + (i : Int) * 3 + 2 by omega, show m + (i : Int) * 3 + 2 + 1 = m + (i : Int) * 3 + 3 by omega]
    rw [hset, show m + (i : Int) * 3 + 3 = m + ((i + 1 : Nat) : Int) * 3 by omega]
    exact ih
theorem markTallyS_ev (l : List S84) (hl : l.length ≤ 1000000000) (m : Int) (hm : 0 ≤ m ∧ m ≤ 1000000000000) : Ev (fun k => laws_markTallyS.f k l m) (m + (l.length : Int) * 3, marks vTally 3 l.length m) := by
  have := markTallyS_l0 l hl m hm l.length 0 (by omega)
  simpa [laws_markTallyS.f, marks] using this
def vLive (m : Int) : S86 := ⟨(Int.tmod m 3 == 0), mt (m + 1), mt (m + 2), m + 3, ⟨m + 4, m + 5⟩⟩
theorem markLiveS_l0 (l : List S86) (hl : l.length ≤ 1000000000) (m : Int) (hm : 0 ≤ m ∧ m ≤ 1000000000000) : ∀ d i, i + d = l.length → Ev (fun k => laws_markLiveS.l0 k (marks vLive 6 i m ++ l.drop i) (m + i * 6) (i : Int)) (m + (l.length : Int) * 6, marks vLive 6 l.length m)
  | 0, i, hi => by
    refine Ev.step (fun k => rfl) ?_
    simp only [laws_markLiveS.l0, marks_mid vLive 6 l m i (by omega), if_neg (show ¬ (i : Int) < (l.length : Int) by omega)]
    rw [List.drop_eq_nil_of_le (show l.length ≤ i by omega), List.append_nil, show i = l.length by omega]
    exact Ev.now _
  | d + 1, i, hi => by
    refine Ev.step (fun k => rfl) ?_
    have ih := markLiveS_l0 l hl m hm d (i + 1) (by omega)
    have hlen := marks_mid vLive 6 l m i (by omega)
    have rdset : ∀ x : S86, rd_T86 ((marks vLive 6 i m ++ l.drop i).set (i : Int).toNat x) (i : Int) = x := fun x => by
      rw [rdI_Live, Int.toNat_natCast, getD_set _ _ _ _ (Nat.lt_of_lt_of_eq (show i < l.length by omega) hlen.symm)]
    have hset := marks_set vLive 6 l m i (by omega) _ rfl
    rw [show vLive (m + (i : Int) * 6) = (⟨(Int.tmod (m + (i : Int) * 6) 3 == 0), mt (m + (i : Int) * 6 + 1), mt (m + (i : Int) * 6 + 2), m + (i : Int) * 6 + 3, ⟨m + (i : Int) * 6 + 4, m + (i : Int) * 6 + 5⟩⟩ : S86) from rfl] at hset
    simp only [laws_markLiveS.l0, hlen, if_pos (show (i : Int) < (l.length : Int) by omega), if_pos (show (0 : Int) ≤ (i : Int) by omega), wr i (by omega), Option.bind_some, List.set_set, rdset, wi (n := m + (i : Int) * 6 + 1) (by omega), wi (n := m + (i : Int) * 6 + 1 + 1) (by omega), wi (n := m + (i : Int) * 6 + 1 + 1 + 1) (by omega), wi (n := m + (i : Int) * 6 + 1 + 1 + 1 + 1) (by omega), wi (n := m + (i : Int) * 6 + 1 + 1 + 1 + 1 + 1) (by omega), wi (n := m + (i : Int) * 6 + 1 + 1 + 1 + 1 + 1 + 1) (by omega)]
    refine Ev.bind (mt_ev (m + (i : Int) * 6 + 1) (by omega) (by omega)) ?_
    (try simp only [Option.bind_some, List.set_set, rdset])
    refine Ev.bind (mt_ev (m + (i : Int) * 6 + 1 + 1) (by omega) (by omega)) ?_
    (try simp only [Option.bind_some, List.set_set, rdset])
    simp only [show m + (i : Int) * 6 + 1 + 1 = m + (i : Int) * 6 + 2 by omega, show m + (i : Int) * 6 + 2 + 1 = m + (i : Int) * 6 + 3 by omega, show m + (i : Int) * 6 + 3 + 1 = m + (i : Int) * 6 + 4 by omega, show m + (i : Int) * 6 + 4 + 1 = m + (i : Int) * 6 + 5 by omega, show m + (i : Int) * 6 + 5 + 1 = m + (i : Int) * 6 + 6 by omega]
    rw [hset, show m + (i : Int) * 6 + 6 = m + ((i + 1 : Nat) : Int) * 6 by omega]
    exact ih
theorem markLiveS_ev (l : List S86) (hl : l.length ≤ 1000000000) (m : Int) (hm : 0 ≤ m ∧ m ≤ 1000000000000) : Ev (fun k => laws_markLiveS.f k l m) (m + (l.length : Int) * 6, marks vLive 6 l.length m) := by
  have := markLiveS_l0 l hl m hm l.length 0 (by omega)
  simpa [laws_markLiveS.f, marks] using this
def vCell (m : Int) : S73 := ⟨mt m, ⟨m + 1, m + 2⟩, m + 3, ⟨m + 4, m + 5⟩, m + 6, (Int.tmod (m + 7) 3 == 0)⟩
theorem markCellS_l0 (l : List S73) (hl : l.length ≤ 1000000000) (m : Int) (hm : 0 ≤ m ∧ m ≤ 1000000000000) : ∀ d i, i + d = l.length → Ev (fun k => laws_markCellS.l0 k (marks vCell 8 i m ++ l.drop i) (m + i * 8) (i : Int)) (m + (l.length : Int) * 8, marks vCell 8 l.length m)
  | 0, i, hi => by
    refine Ev.step (fun k => rfl) ?_
    simp only [laws_markCellS.l0, marks_mid vCell 8 l m i (by omega), if_neg (show ¬ (i : Int) < (l.length : Int) by omega)]
    rw [List.drop_eq_nil_of_le (show l.length ≤ i by omega), List.append_nil, show i = l.length by omega]
    exact Ev.now _
  | d + 1, i, hi => by
    refine Ev.step (fun k => rfl) ?_
    have ih := markCellS_l0 l hl m hm d (i + 1) (by omega)
    have hlen := marks_mid vCell 8 l m i (by omega)
    have rdset : ∀ x : S73, rd_T73 ((marks vCell 8 i m ++ l.drop i).set (i : Int).toNat x) (i : Int) = x := fun x => by
      rw [rdI_Cell, Int.toNat_natCast, getD_set _ _ _ _ (Nat.lt_of_lt_of_eq (show i < l.length by omega) hlen.symm)]
    have hset := marks_set vCell 8 l m i (by omega) _ rfl
    rw [show vCell (m + (i : Int) * 8) = (⟨mt (m + (i : Int) * 8), ⟨m + (i : Int) * 8 + 1, m + (i : Int) * 8 + 2⟩, m + (i : Int) * 8 + 3, ⟨m + (i : Int) * 8 + 4, m + (i : Int) * 8 + 5⟩, m + (i : Int) * 8 + 6, (Int.tmod (m + (i : Int) * 8 + 7) 3 == 0)⟩ : S73) from rfl] at hset
    simp only [laws_markCellS.l0, hlen, if_pos (show (i : Int) < (l.length : Int) by omega), if_pos (show (0 : Int) ≤ (i : Int) by omega), wr i (by omega), Option.bind_some, List.set_set, rdset, wi (n := m + (i : Int) * 8 + 1) (by omega), wi (n := m + (i : Int) * 8 + 1 + 1) (by omega), wi (n := m + (i : Int) * 8 + 1 + 1 + 1) (by omega), wi (n := m + (i : Int) * 8 + 1 + 1 + 1 + 1) (by omega), wi (n := m + (i : Int) * 8 + 1 + 1 + 1 + 1 + 1) (by omega), wi (n := m + (i : Int) * 8 + 1 + 1 + 1 + 1 + 1 + 1) (by omega), wi (n := m + (i : Int) * 8 + 1 + 1 + 1 + 1 + 1 + 1 + 1) (by omega), wi (n := m + (i : Int) * 8 + 1 + 1 + 1 + 1 + 1 + 1 + 1 + 1) (by omega)]
    refine Ev.bind (mt_ev (m + (i : Int) * 8) (by omega) (by omega)) ?_
    (try simp only [Option.bind_some, List.set_set, rdset])
    simp only [show m + (i : Int) * 8 + 1 + 1 = m + (i : Int) * 8 + 2 by omega, show m + (i : Int) * 8 + 2 + 1 = m + (i : Int) * 8 + 3 by omega, show m + (i : Int) * 8 + 3 + 1 = m + (i : Int) * 8 + 4 by omega, show m + (i : Int) * 8 + 4 + 1 = m + (i : Int) * 8 + 5 by omega, show m + (i : Int) * 8 + 5 + 1 = m + (i : Int) * 8 + 6 by omega, show m + (i : Int) * 8 + 6 + 1 = m + (i : Int) * 8 + 7 by omega, show m + (i : Int) * 8 + 7 + 1 = m + (i : Int) * 8 + 8 by omega]
    rw [hset, show m + (i : Int) * 8 + 8 = m + ((i + 1 : Nat) : Int) * 8 by omega]
    exact ih
theorem markCellS_ev (l : List S73) (hl : l.length ≤ 1000000000) (m : Int) (hm : 0 ≤ m ∧ m ≤ 1000000000000) : Ev (fun k => laws_markCellS.f k l m) (m + (l.length : Int) * 8, marks vCell 8 l.length m) := by
  have := markCellS_l0 l hl m hm l.length 0 (by omega)
  simpa [laws_markCellS.f, marks] using this
theorem markState_ev (a : List Int) (b : List S84) (c : List S86) (d : List S73) (ha : a.length ≤ 10000000) (hb : b.length ≤ 10000000) (hc : c.length ≤ 10000000) (hd : d.length ≤ 10000000) (m : Int) (hm : 0 ≤ m ∧ m ≤ 1000000000) :
    Ev (fun k => laws_markState.f k a b c d m) (m + (a.length : Int) + (b.length : Int) * 3 + (c.length : Int) * 6 + (d.length : Int) * 8, iota a.length m, marks vTally 3 b.length (m + (a.length : Int)), marks vLive 6 c.length (m + (a.length : Int) + (b.length : Int) * 3), marks vCell 8 d.length (m + (a.length : Int) + (b.length : Int) * 3 + (c.length : Int) * 6)) := by
  unfold laws_markState.f
  exact Ev.bind (markIntS_ev a (by omega) m (by omega)) (Ev.bind (markTallyS_ev b (by omega) _ (by simp only; omega)) (Ev.bind (markLiveS_ev c (by omega) _ (by simp only; omega)) (Ev.bind (markCellS_ev d (by omega) _ (by simp only; omega)) (Ev.now _))))
theorem heldIntS_l0 (n : Nat) (hn : n ≤ 140737488351232) (m : Int) (hm : 0 ≤ m ∧ m ≤ 1000000000000) : ∀ d i, i + d = n → Ev (fun k => laws_heldIntS.l0 k (iota n m) (m + i) (i : Int)) (m + (n : Int))
  | 0, i, hi => by
    refine Ev.step (fun k => rfl) ?_
    simp only [laws_heldIntS.l0, iota_len, if_neg (show ¬ (i : Int) < (n : Int) by omega)]
    rw [show (i : Int) = (n : Int) by omega]
    exact Ev.now _
  | d + 1, i, hi => by
    refine Ev.step (fun k => rfl) ?_
    have ih := heldIntS_l0 n hn m hm d (i + 1) (by omega)
    simp only [laws_heldIntS.l0, iota_len, if_pos (show (i : Int) < (n : Int) by omega), if_pos (show (0 : Int) ≤ (i : Int) by omega), wr i (by omega), if_pos (iota_rd n m i (by omega)), wi (n := m + i + 1) (by omega)]
    rw [show m + (i : Int) + 1 = m + ((i + 1 : Nat) : Int) by omega]
    exact ih
theorem heldIntS_ev (n : Nat) (hn : n ≤ 140737488351232) (m : Int) (hm : 0 ≤ m ∧ m ≤ 1000000000000) : Ev (fun k => laws_heldIntS.f k (iota n m) m) (m + (n : Int)) := by
  have := heldIntS_l0 n hn m hm n 0 (by omega)
  simpa [laws_heldIntS.f] using this
theorem FnExactMapOf : laws_FnExactMapOf.Pure := by
  intro a b c d o q ha hb hc hd _ _
  refine Ev.rounds ?_
  unfold laws_FnExactMapOf.f
  by_cases h : (o.size : Int) > 1048576
  · simp only [if_pos h]; exact Ev.now _
  by_cases h' : (q.size : Int) > 1048576
  · simp only [if_neg h, if_pos h']; exact Ev.now _
  simp only [if_neg h, if_neg h']
  obtain ⟨z, hz, hl⟩ := szState_ex a b c d ha.1 hb hc hd 1048576 (by omega)
  refine Ev.bind hz ?_
  by_cases h2 : z < 0
  · simp only [if_pos h2]; exact Ev.now _
  simp only [if_neg h2]
  have t := toState_ev a b c d (by omega) (by omega) (by omega) (by omega)
  have hcl : (c.map toLiveC).length ≤ 1048576 := by rw [List.length_map]; omega
  have im := impl_MapOf_ev a (b.map toTallyC) (c.map toLiveC) (d.map toCellC) o q hcl
  have sp := spec_MapOf_ev a (b.map toTallyC) (c.map toLiveC) (d.map toCellC) o q hcl
  have hL := livesF_len true o q (c.map toLiveC) []
  have hR := sortF_len ((livesF true o q (c.map toLiveC) []).map fun x => x.f3) []
  rw [List.length_map] at hR
  rw [List.length_nil] at hL hR
  generalize sortF [] ((livesF true o q (c.map toLiveC) []).map fun x => x.f3) = R at im sp hR
  have hRl : R.length ≤ 1048576 := by omega
  have eq := eqIntS_ev R (by omega)
  have hm := markIntS_ev R (by omega) 1 (by omega)
  have hh := heldIntS_ev R.length (by omega) 1 (by omega)
  refine Ev.bind t (Ev.bind sp (Ev.bind t (Ev.bind im (Ev.bind eq ?_))))
  simp only [if_true]
  refine Ev.bind t (Ev.bind (eqState_ev _ _ _ _ (by omega) (by rw [List.length_map]; omega) (by rw [List.length_map]; omega) (by rw [List.length_map]; omega)) ?_)
  simp only [if_true]
  refine Ev.bind (markState_ev a (b.map toTallyC) (c.map toLiveC) (d.map toCellC) (by omega) (by rw [List.length_map]; omega) (by rw [List.length_map]; omega) (by rw [List.length_map]; omega) 1 (by omega)) ?_
  simp only [if_neg (show ¬ (1 + (a.length : Int) + ((b.map toTallyC).length : Int) * 3 + ((c.map toLiveC).length : Int) * 6 + ((d.map toCellC).length : Int) * 8) < 0 by omega)]
  refine Ev.bind eq ?_
  refine Ev.step (fun k => rfl) ?_
  simp only [laws_FnExactMapOf.j0, Bool.not_true, Bool.false_eq_true, if_false]
  refine Ev.bind hm (Ev.bind hh ?_)
  simp only [if_neg (show ¬ (1 + (R.length : Int)) < 0 by omega), if_true]
  refine Ev.bind t (Ev.bind im (Ev.bind eq ?_))
  simp only [if_true]
  refine Ev.bind hh ?_
  simp only [if_neg (show ¬ (1 + (R.length : Int)) < 0 by omega)]
  exact Ev.now _
end Go.Proofs.Ytbanogkoaplcdaa.Pure
