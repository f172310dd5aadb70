/- The program's ActText tells of every act what the reference's ActText tells, and leaves it as it was.
No condition beyond those of the given row. -/
import Derived.Test.YtmohbiagcbfkpaaVFnExactActTextQActx0
import Derived.Test.YtmohbiagcbfkpaaVFnExactActTextQActx1
import Derived.Test.YtmohbiagcbfkpaaVFnExactActTextQActx2
import Derived.Test.YtmohbiagcbfkpaaVFnExactActTextQActx3
import Derived.Test.YtmohbiagcbfkpaaVFnExactActTextQActx4
import Derived.Test.YtmohbiagcbfkpaaVFnExactActTextQActx5
import Derived.Test.YtmohbiagcbfkpaaVFnExactActTextQActx6
import Derived.Test.YtmohbiagcbfkpaaVFnExactActTextQActx7
import Derived.Test.YtmohbiagcbfkpaaVFnExactActTextQActx8
import Derived.Test.YtmohbiagcbfkpaaVFnExactActTextQActx9
import Derived.Test.YtmohbiagcbfkpaaVFnExactActTextQActx10
import Derived.Test.YtmohbiagcbfkpaaVFnExactActTextQActx11
import Derived.Test.YtmohbiagcbfkpaaVFnExactActTextQActx12
import Derived.Test.YtmohbiagcbfkpaaVFnExactActTextQActx13
import Derived.Test.YtmohbiagcbfkpaaVFnExactActTextQActx14
import Derived.Test.YtmohbiagcbfkpaaVFnExactActTextQActx15
import Derived.Test.YtmohbiagcbfkpaaVFnExactActTextSt
import Derived.Test.YtmohbiagcbfkpaaVFnExactActTextPlain
namespace Go.Proofs.Ytmohbiagcbfkpaa.Pure
open Go.RowKit Go.Proofs.Ytmohbiagcbfkpaa.QAct Go.Proofs.Ytmohbiagcbfkpaa.Plain Go.Proofs.YtmohbiagcbfkpaaW.PrintWords Go.Proofs.YtmohbiagcbfkpaaW.PrintLast Go.Proofs.YtmohbiagcbfkpaaW.PrintMore
set_option linter.unusedSimpArgs false
set_option linter.unusedVariables false
theorem szAct_ex (a b c : Int) (l : List Int) (d : Int) (s t : ByteArray) (e f g : Int) (hl : l.length ≤ 9223372036854775807) (hs : s.size ≤ 9223372036854775807) (ht : t.size ≤ 9223372036854775807) (left : Int) (h0 : 0 ≤ left ∧ left ≤ 1048576) :
    ∃ r, laws_szAct.f a b c l d s t e f g left = some r ∧ (r < 0 ∨ (0 ≤ r ∧ r ≤ left ∧ (l.length : Int) ≤ left ∧ (s.size : Int) ≤ left ∧ (t.size : Int) ≤ left)) := by
  unfold laws_szAct.f laws_szIntS.f
  rw [wi (n := left - (l.length : Int)) (by omega)]
  by_cases c1 : left - (l.length : Int) < 0
  · exact ⟨-1, by simp only [if_pos c1, Option.bind_some, if_pos (show (-1 : Int) < 0 by omega)], Or.inl (by omega)⟩
  simp only [if_neg c1, Option.bind_some]
  rw [wi (n := left - (l.length : Int) - (s.size : Int)) (by omega)]
  by_cases c2 : left - (l.length : Int) - (s.size : Int) < 0
  · exact ⟨-1, by simp only [if_pos c2], Or.inl (by omega)⟩
  simp only [if_neg c2]
  rw [wi (n := left - (l.length : Int) - (s.size : Int) - (t.size : Int)) (by omega)]
  by_cases c3 : left - (l.length : Int) - (s.size : Int) - (t.size : Int) < 0
  · exact ⟨-1, by simp only [if_pos c3], Or.inl (by omega)⟩
  · exact ⟨left - (l.length : Int) - (s.size : Int) - (t.size : Int), by simp only [if_neg c3], Or.inr (by omega)⟩
theorem toIntS_l0 (l : List Int) (hl : l.length ≤ 140737488351232) : ∀ d i, i + d = l.length → Ev (fun k => laws_toIntS.l0 k l (l.take i ++ List.replicate d 0) (i : Int)) l
  | 0, i, hi => by
    refine Ev.step (fun k => rfl) ?_
    simp only [laws_toIntS.l0, if_neg (show ¬ (i : Int) < (l.length : Int) by omega)]
    rw [show l.take i ++ List.replicate 0 0 = l by rw [List.take_of_length_le (by omega)]; simp]
    exact Ev.now _
  | d + 1, i, hi => by
    refine Ev.step (fun k => rfl) ?_
    have ih := toIntS_l0 l hl d (i + 1) (by omega)
    have e : (l.take i ++ List.replicate (d + 1) 0).set (i : Int).toNat (rd l (i : Int)) = l.take (i + 1) ++ List.replicate d 0 := take_set l 0 i d (by omega)
    simp only [laws_toIntS.l0, if_pos (show (i : Int) < (l.length : Int) by omega), if_pos (show (0 : Int) ≤ (i : Int) by omega), wr i (by omega),
      if_pos (show (i : Int) < ((l.take i ++ List.replicate (d + 1) 0).length : Int) by rw [List.length_append, List.length_take, List.length_replicate]; omega), e]
    exact ih
theorem toIntS_ev (l : List Int) (hl : l.length ≤ 17592186043904) : Ev (fun k => laws_toIntS.f k l) l := by
  unfold laws_toIntS.f
  simp only [if_pos (show (0 : Int) ≤ (l.length : Int) by omega), Int.toNat_natCast, if_pos (show l.length ≤ 35184372088832 by omega)]
  exact toIntS_l0 l (by omega) l.length 0 (by omega)
theorem toDot_eq (r s : Int) : laws_toDot.f r s = some (r, s) := rfl
theorem toAct_ev (a b c : Int) (l : List Int) (d : Int) (s t : ByteArray) (e f g : Int) (hl : l.length ≤ 1048576) : Ev (fun k => laws_toAct.f k a b c l d s t e f g) (a, b, c, l, d, s, t, e, f, g) := by
  unfold laws_toAct.f
  simp only [toDot_eq, Option.bind_some]
  exact Ev.bind (toIntS_ev l (by omega)) (Ev.now _)
theorem eqIntS_l0 (l : List Int) (hl : l.length ≤ 140737488351232) : ∀ d i, i + d = l.length → Ev (fun k => laws_eqIntS.l0 k l l (i : Int)) true
  | 0, i, hi => by
    refine Ev.step (fun k => rfl) ?_
    simp only [laws_eqIntS.l0, if_neg (show ¬ (i : Int) < (l.length : Int) by omega)]
    exact Ev.now _
  | d + 1, i, hi => by
    refine Ev.step (fun k => rfl) ?_
    simp only [laws_eqIntS.l0, if_pos (show (i : Int) < (l.length : Int) by omega), if_pos (show (0 : Int) ≤ (i : Int) by omega), if_true, wr i (by omega)]
    exact eqIntS_l0 l hl d (i + 1) (by omega)
theorem eqIntS_ev (l : List Int) (hl : l.length ≤ 140737488351232) : Ev (fun k => laws_eqIntS.f k l l) true := by
  unfold laws_eqIntS.f
  simp only [if_true]
  exact eqIntS_l0 l hl l.length 0 (by omega)
theorem eqDot_refl (r s : Int) : laws_eqDot.f r s r s = some true := by simp [laws_eqDot.f]
theorem eqAct_ev (a b c : Int) (l : List Int) (d : Int) (s t : ByteArray) (e f g : Int) (hl : l.length ≤ 140737488351232) : Ev (fun k => laws_eqAct.f k a b c l d s t e f g a b c l d s t e f g) true := by
  unfold laws_eqAct.f
  simp only [eqDot_refl, Option.bind_some, if_true]
  refine Ev.bind (eqIntS_ev l hl) ?_
  simp only [if_true]
  exact Ev.now _
def nameB (s : ByteArray) : Nat → Nat → Bool
  | 0, _ => inB (s.size : Int) 1 8
  | d + 1, i => if inB (bt s (i : Int)) 97 122 = true then nameB s d (i + 1) else false
theorem toL (s : ByteArray) : s.toList = s.data.toList := ByteArray.toList_eq s
theorem len_toL (s : ByteArray) : s.toList.length = s.size := by rw [toL, Array.length_toList]; rfl
def nm (s : ByteArray) : Bool := nameB s s.size 0
def valuedB (kind : Int) : Bool := if kind = 1 then true else if kind = 4 then true else (kind == 6)
def valB (kind val : Int) : Bool := if val = 0 then true else if valuedB kind = true then inB val 0 999999 else false
def wordsB (kind : Int) (obj key : ByteArray) (val : Int) : Bool :=
  if inB kind 1 7 = true then (if nm obj = true then (if inB kind 2 5 = true then (if nm key = true then valB kind val else false) else (if key.toList = [] then valB kind val else false)) else false) else false
theorem nm_empty {s : ByteArray} (h : s.toList = []) : nm s = false := by
  have hz : s.size = 0 := by have := len_toL s; rw [h] at this; simpa using this.symm
  unfold nm
  rw [hz, nameB, hz]; rfl
def knowB (l : List Int) : Bool := (l.all fun x => inB x 0 1000) && ((l.length : Int) == 3)
theorem all_drop (l : List Int) (i : Nat) (h : i < l.length) : ((l.drop i).all fun x => inB x 0 1000) = (inB (rd l (i : Int)) 0 1000 && (l.drop (i + 1)).all fun x => inB x 0 1000) := by
  rw [drop_rd l i h]; rfl
def dotB (r s : Int) : Bool := if inB r 0 2 = true then inB s 1 1000 else false
def knowsB (l : List Int) (r s : Int) : Bool := if knowB l = true then (if dotB r s = true then decide (s ≤ rd l r) else false) else false
def refB (kind : Int) (knew : List Int) (r s : Int) : Bool := if kind = 7 then knowsB knew r s else if kind = 6 then (if (r == 0 && (s == 0)) = true then true else knowsB knew r s) else (r == 0 && (s == 0))
def actB (rep seq time : Int) (knew : List Int) (kind : Int) (obj key : ByteArray) (val r s : Int) : Bool :=
  if dotB rep seq = true then (if knowB knew = true then (if rd knew rep = seq - 1 then (if inB time 1 10000 = true then (if wordsB kind obj key val = true then refB kind knew r s else false) else false) else false) else false) else false
theorem dotB_true {r s : Int} (h : dotB r s = true) : (0 ≤ r ∧ r ≤ 2) ∧ 1 ≤ s ∧ s ≤ 1000 := by
  unfold dotB at h
  by_cases c : inB r 0 2 = true
  · rw [if_pos c] at h; exact ⟨inB_true.1 c, inB_true.1 h⟩
  · simp [c] at h
theorem know_len {l : List Int} (h : knowB l = true) : (l.length : Int) = 3 := by
  unfold knowB at h
  simp only [Bool.and_eq_true, beq_iff_eq] at h
  exact h.2
def varL : Nat → Int → List Int
  | 0, x => [x % 256]
  | d + 1, x => if x > 127 then (x % 128 + 128) :: varL d (x / 128) else [x % 256]
def big (d : Nat) : Int := 128 ^ d
theorem big_succ (d : Nat) : big (d + 1) = 128 * big d := by unfold big; rw [Int.pow_succ]; omega
theorem big_zero : big 0 = 1 := rfl
theorem varL_len : ∀ d x, (varL d x).length ≤ d + 1
  | 0, x => by simp [varL]
  | d + 1, x => by
    have := varL_len d (x / 128)
    unfold varL
    split <;> simp <;> omega
def varT (x : Int) : ByteArray := strOfNums (varL 9 x)
def shortT (s : ByteArray) : ByteArray × Bool := if (s.size : Int) > 20000 then ((⟨#[]⟩ : ByteArray), false) else (varT (s.size : Int) ++ s, true)
theorem strOfNums_len (l : List Int) : (strOfNums l).size = l.length := by
  unfold strOfNums; simp [ByteArray.size]
theorem varT_size (x : Int) : (varT x).size ≤ 10 := by
  unfold varT; rw [strOfNums_len]; exact varL_len 9 x
theorem know3 {l : List Int} (h : knowB l = true) : ∃ x y z, l = [x, y, z] ∧ (0 ≤ x ∧ x ≤ 1000) ∧ (0 ≤ y ∧ y ≤ 1000) ∧ (0 ≤ z ∧ z ≤ 1000) := by
  unfold knowB at h
  simp only [Bool.and_eq_true, beq_iff_eq] at h
  obtain ⟨h1, h2⟩ := h
  match l, h2 with
  | [x, y, z], _ =>
    simp [inB_true] at h1
    exact ⟨x, y, z, rfl, h1⟩
  | [], h => simp at h
  | [_], h => simp at h
  | [_, _], h => simp at h
  | _ :: _ :: _ :: _ :: _, h => simp at h; omega
theorem w1 : wrap64 (0 + 1) = 1 := by rw [wi (by omega)]; rfl
theorem w2 : wrap64 (1 + 1) = 2 := by rw [wi (by omega)]; rfl
def varTs : List Int → ByteArray → ByteArray
  | [], out => out
  | x :: l, out => varTs l (out ++ varT x)
theorem varTs_len : ∀ (l : List Int) (out : ByteArray), (varTs l out).size ≤ out.size + 10 * l.length
  | [], out => by simp [varTs]
  | x :: l, out => by
    have h1 := varTs_len l (out ++ varT x)
    have h2 := varT_size x
    rw [ByteArray.size_append] at h1
    rw [List.length_cons]
    unfold varTs
    omega
def shT (s : ByteArray) : ByteArray := varT (s.size : Int) ++ s
def actT (rep seq time : Int) (knew : List Int) (kind : Int) (obj key : ByteArray) (val r s : Int) : ByteArray :=
  (((((((varT rep ++ varT seq) ++ varT time) ++ varTs knew (⟨#[]⟩ : ByteArray)) ++ varT kind) ++ shT obj) ++ shT key) ++ varT val) ++ (varT r ++ varT s)
def small (x : Int) : Prop := 0 ≤ x ∧ x ≤ 1000000000
theorem nm_size {s : ByteArray} (h : nm s = true) : s.size ≤ 8 := by
  have key : ∀ (d i : Nat), nameB s d i = true → s.size ≤ 8 := by
    intro d
    induction d with
    | zero => intro i h; have := inB_true.1 h; omega
    | succ d ih =>
      intro i h
      unfold nameB at h
      split at h
      · exact ih _ h
      · cases h
  exact key _ _ h
theorem knows_small {l : List Int} {r s : Int} (h : knowsB l r s = true) : small r ∧ small s := by
  unfold knowsB at h
  split at h
  · split at h
    · rename_i hd
      have := dotB_true hd
      exact ⟨⟨by omega, by omega⟩, by omega, by omega⟩
    · cases h
  · cases h
structure ActOk (rep seq time : Int) (knew : List Int) (kind : Int) (obj key : ByteArray) (val r s : Int) : Prop where
  rep : small rep
  seq : small seq
  time : small time
  len : knew.length = 3
  knew : ∀ x ∈ knew, small x
  kind : small kind
  obj : obj.size ≤ 8
  key : key.size ≤ 8
  val : small val
  r : small r
  s : small s
theorem act_ok {rep seq time : Int} {knew : List Int} {kind : Int} {obj key : ByteArray} {val r s : Int} (h : actB rep seq time knew kind obj key val r s = true) : ActOk rep seq time knew kind obj key val r s := by
  unfold actB at h
  by_cases h1 : dotB rep seq = true
  · by_cases h2 : knowB knew = true
    · by_cases h3 : rd knew rep = seq - 1
      · by_cases h4 : inB time 1 10000 = true
        · by_cases h5 : wordsB kind obj key val = true
          · rw [if_pos h1, if_pos h2, if_pos h3, if_pos h4, if_pos h5] at h
            have d1 := dotB_true h1
            have d4 := inB_true.1 h4
            have d2 := know_len h2
            obtain ⟨x, y, z, rfl, hx, hy, hz⟩ := know3 h2
            have hk : small kind ∧ obj.size ≤ 8 ∧ key.size ≤ 8 ∧ small val := by
              unfold wordsB at h5
              by_cases g1 : inB kind 1 7 = true
              · by_cases g2 : nm obj = true
                · rw [if_pos g1, if_pos g2] at h5
                  have gk := inB_true.1 g1
                  have hv : ∀ {kk}, valB kk val = true → small val := by
                    intro kk hh
                    unfold valB at hh
                    split at hh
                    · unfold small; omega
                    · split at hh
                      · have := inB_true.1 hh; unfold small; omega
                      · cases hh
                  refine ⟨⟨by omega, by omega⟩, nm_size g2, ?_⟩
                  by_cases g3 : inB kind 2 5 = true
                  · rw [if_pos g3] at h5
                    by_cases g4 : nm key = true
                    · rw [if_pos g4] at h5; exact ⟨nm_size g4, hv h5⟩
                    · rw [if_neg g4] at h5; cases h5
                  · rw [if_neg g3] at h5
                    by_cases g4 : key.toList = []
                    · rw [if_pos g4] at h5
                      have := len_toL key
                      rw [g4] at this
                      exact ⟨by simp at this; omega, hv h5⟩
                    · rw [if_neg g4] at h5; cases h5
                · rw [if_pos g1, if_neg g2] at h5; cases h5
              · rw [if_neg g1] at h5; cases h5
            have hr : small r ∧ small s := by
              have h0 : (r == 0 && (s == 0)) = true → small r ∧ small s := by
                intro hh
                simp only [Bool.and_eq_true, beq_iff_eq] at hh
                unfold small; omega
              unfold refB at h
              by_cases g1 : kind = 7
              · rw [if_pos g1] at h; exact knows_small h
              · rw [if_neg g1] at h
                by_cases g2 : kind = 6
                · rw [if_pos g2] at h
                  by_cases g3 : (r == 0 && (s == 0)) = true
                  · exact h0 g3
                  · rw [if_neg g3] at h; exact knows_small h
                · rw [if_neg g2] at h; exact h0 h
            exact ⟨⟨by omega, by omega⟩, ⟨by omega, by omega⟩, ⟨by omega, by omega⟩, rfl, by simp [small]; omega, hk.1, hk.2.1, hk.2.2.1, hk.2.2.2, hr.1, hr.2⟩
          · rw [if_pos h1, if_pos h2, if_pos h3, if_pos h4, if_neg h5] at h; cases h
        · rw [if_pos h1, if_pos h2, if_pos h3, if_neg h4] at h; cases h
      · rw [if_pos h1, if_pos h2, if_neg h3] at h; cases h
    · rw [if_pos h1, if_neg h2] at h; cases h
  · rw [if_neg h1] at h; cases h
theorem spec_in (x lo hi : Int) : spec_l01In.f x lo hi = some (inB x lo hi) := in_ite x lo hi
theorem spec_KnowOk_l0 (l : List Int) (hl : l.length ≤ 140737488351232) : ∀ d i, i + d = l.length → Ev (fun k => spec_KnowOk.l0 k l (i : Int)) (((l.drop i).all fun x => inB x 0 1000) && ((l.length : Int) == 3))
  | 0, i, hi => by
    refine Ev.step (fun k => rfl) ?_
    simp only [spec_KnowOk.l0, if_neg (show ¬ (i : Int) < (l.length : Int) by omega), List.drop_eq_nil_of_le (show l.length ≤ i by omega), List.all_nil, Bool.true_and]
    exact Ev.now _
  | d + 1, i, hi => by
    refine Ev.step (fun k => rfl) ?_
    have ih := spec_KnowOk_l0 l hl d (i + 1) (by omega)
    simp only [spec_KnowOk.l0, if_pos (show (i : Int) < (l.length : Int) by omega), if_pos (show (0 : Int) ≤ (i : Int) by omega), wr i (by omega), spec_in, Option.bind_some, all_drop l i (by omega)]
    cases inB (rd l (i : Int)) 0 1000
    · exact Ev.now _
    · exact ih
theorem spec_KnowOk_ev (l : List Int) (hl : l.length ≤ 140737488351232) : Ev (fun k => spec_KnowOk.f k l) (knowB l) := spec_KnowOk_l0 l hl l.length 0 (by omega)
theorem spec_DotOk_eq (r s : Int) : spec_DotOk.f r s = some (dotB r s) := by
  unfold spec_DotOk.f dotB
  simp only [spec_in, Option.bind_some]
  split <;> rfl
theorem spec_Knows_ev (l : List Int) (r s : Int) (hl : l.length ≤ 140737488351232) : Ev (fun k => spec_Knows.f k l r s) (knowsB l r s) := by
  unfold spec_Knows.f knowsB
  refine Ev.bind (spec_KnowOk_ev l hl) ?_
  by_cases ka : knowB l = true
  · simp only [if_pos ka, spec_DotOk_eq, Option.bind_some]
    by_cases kd : dotB r s = true
    · simp only [if_pos kd]
      have h1 : 0 ≤ r ∧ r ≤ 2 := by
        unfold dotB at kd
        by_cases c : inB r 0 2 = true
        · exact inB_true.1 c
        · simp [c] at kd
      have h2 : (l.length : Int) = 3 := by
        unfold knowB at ka
        simp only [Bool.and_eq_true, beq_iff_eq] at ka
        exact ka.2
      simp only [if_pos h1.1, if_pos (show r < (l.length : Int) by omega)]
      exact Ev.now _
    · simp only [if_neg kd]; exact Ev.now _
  · simp only [if_neg ka]; exact Ev.now _
theorem spec_NameOk_l0 (s : ByteArray) (hs : s.size ≤ 140737488351232) : ∀ d i, i + d = s.size → Ev (fun k => spec_NameOk.l0 k s (i : Int)) (nameB s d i)
  | 0, i, hi => by
    refine Ev.step (fun k => rfl) ?_
    simp only [spec_NameOk.l0, if_neg (show ¬ (i : Int) < (s.size : Int) by omega), spec_in, Option.bind_some]
    exact Ev.now _
  | d + 1, i, hi => by
    refine Ev.step (fun k => rfl) ?_
    have ih := spec_NameOk_l0 s hs d (i + 1) (by omega)
    have hb := bt_range s (i : Int)
    simp only [spec_NameOk.l0, if_pos (show (i : Int) < (s.size : Int) by omega), if_pos (show (0 : Int) ≤ (i : Int) by omega), wr i (by omega), nameB]
    by_cases h1 : bt s (i : Int) < 97
    · simp only [if_pos h1, inB_false.2 (show ¬ (97 ≤ bt s (i : Int) ∧ bt s (i : Int) ≤ 122) by omega)]
      exact Ev.now _
    · by_cases h2 : bt s (i : Int) > 122
      · simp only [if_neg h1, if_pos h2, inB_false.2 (show ¬ (97 ≤ bt s (i : Int) ∧ bt s (i : Int) ≤ 122) by omega)]
        exact Ev.now _
      · simp only [if_neg h1, if_neg h2, inB_true.2 (show 97 ≤ bt s (i : Int) ∧ bt s (i : Int) ≤ 122 by omega), if_true]
        exact ih
theorem spec_NameOk_ev (s : ByteArray) (hs : s.size ≤ 140737488351232) : Ev (fun k => spec_NameOk.f k s) (nameB s s.size 0) := spec_NameOk_l0 s hs s.size 0 (by omega)
theorem spec_l05Keyed_eq (kind : Int) : spec_l05Keyed.f kind = some (inB kind 2 5) := by simp [spec_l05Keyed.f, spec_in]
theorem spec_l05Valued_eq (kind : Int) : spec_l05Valued.f kind = some (valuedB kind) := by
  unfold spec_l05Valued.f valuedB
  split
  · rfl
  · split <;> rfl
theorem spec_l05Plain_j0 (kind val : Int) : Ev (fun k => spec_l05Plain.j0 k kind val false) (valB kind val) := by
  refine Ev.step (fun k => rfl) ?_
  simp only [spec_l05Plain.j0, Bool.false_eq_true, if_false, spec_l05Valued_eq, Option.bind_some, spec_in, valB]
  by_cases c : val = 0
  · simp only [if_pos c]; exact Ev.now _
  · simp only [if_neg c]
    by_cases c2 : valuedB kind = true
    · simp only [if_pos c2]; exact Ev.now _
    · simp only [if_neg c2]; exact Ev.now _
theorem spec_l05Plain_no (kind val : Int) : Ev (fun k => spec_l05Plain.j0 k kind val true) false := by
  refine Ev.step (fun k => rfl) ?_
  simp only [spec_l05Plain.j0, if_true]; exact Ev.now _
theorem spec_l05Plain_ev (kind : Int) (obj key : ByteArray) (val : Int) (ho : obj.size ≤ 140737488351232) (hk : key.size ≤ 140737488351232) : Ev (fun k => spec_l05Plain.f k kind obj key val) (wordsB kind obj key val) := by
  unfold spec_l05Plain.f wordsB
  simp only [spec_in, spec_l05Keyed_eq, Option.bind_some]
  by_cases c1 : inB kind 1 7 = true
  · simp only [if_pos c1]
    refine Ev.bind (spec_NameOk_ev obj ho) ?_
    show Ev _ (if nm obj = true then _ else _)
    by_cases c2 : nm obj = true
    · have c2' : nameB obj obj.size 0 = true := c2
      simp only [if_pos c2, if_pos c2']
      by_cases c3 : inB kind 2 5 = true
      · simp only [if_pos c3]
        refine Ev.bind (spec_NameOk_ev key hk) ?_
        show Ev _ (if nm key = true then _ else _)
        by_cases c4 : nm key = true
        · have c4' : nameB key key.size 0 = true := c4
          simp only [if_pos c4, if_pos c4']; exact spec_l05Plain_j0 kind val
        · have c4' : ¬ nameB key key.size 0 = true := c4
          simp only [if_neg c4, if_neg c4']; exact spec_l05Plain_no kind val
      · simp only [if_neg c3]
        by_cases c4 : key.toList = []
        · simp only [if_pos c4, c4, bne_self_eq_false]; exact spec_l05Plain_j0 kind val
        · simp only [if_neg c4, bne_iff_ne.2 c4]; exact spec_l05Plain_no kind val
    · have c2' : ¬ nameB obj obj.size 0 = true := c2
      simp only [if_neg c2, if_neg c2']; exact spec_l05Plain_no kind val
  · simp only [if_neg c1]; exact spec_l05Plain_no kind val
theorem spec_ActOk_no (a b c : Int) (l : List Int) (d : Int) (s t : ByteArray) (e f g : Int) : Ev (fun k => spec_ActOk.j0 k true a b c l d s t e f g) false := by
  refine Ev.step (fun k => rfl) ?_
  simp only [spec_ActOk.j0, if_true]; exact Ev.now _
theorem spec_ActOk_j0 (a b c : Int) (l : List Int) (d : Int) (s t : ByteArray) (e f g : Int) (hl : l.length ≤ 140737488351232) : Ev (fun k => spec_ActOk.j0 k false a b c l d s t e f g) (refB d l f g) := by
  refine Ev.step (fun k => rfl) ?_
  simp only [spec_ActOk.j0, Bool.false_eq_true, if_false, refB]
  by_cases c1 : d = 7
  · simp only [if_pos c1]; exact Ev.bind (spec_Knows_ev l f g hl) (Ev.now _)
  · simp only [if_neg c1]
    by_cases c2 : d = 6
    · simp only [if_pos c2]
      by_cases c3 : (f == 0 && (g == 0)) = true
      · simp only [if_pos c3]; exact Ev.now _
      · simp only [if_neg c3]; exact Ev.bind (spec_Knows_ev l f g hl) (Ev.now _)
    · simp only [if_neg c2]; exact Ev.now _
theorem spec_ActOk_ev (a b c : Int) (l : List Int) (d : Int) (s t : ByteArray) (e f g : Int) (hl : l.length ≤ 140737488351232) (hs : s.size ≤ 140737488351232) (ht : t.size ≤ 140737488351232) : Ev (fun k => spec_ActOk.f k a b c l d s t e f g) (actB a b c l d s t e f g) := by
  unfold spec_ActOk.f actB
  simp only [spec_DotOk_eq, spec_in, Option.bind_some]
  by_cases c1 : dotB a b = true
  · have h1 := dotB_true c1
    simp only [if_pos c1]
    refine Ev.bind (spec_KnowOk_ev l hl) ?_
    by_cases c2 : knowB l = true
    · have h2 := know_len c2
      simp only [if_pos c2, if_pos h1.1.1, if_pos (show a < (l.length : Int) by omega), wi (n := b - 1) (by omega)]
      by_cases c3 : rd l a = b - 1
      · simp only [if_pos c3]
        by_cases c4 : inB c 1 10000 = true
        · simp only [if_pos c4]
          refine Ev.bind (spec_l05Plain_ev d s t e hs ht) ?_
          by_cases c5 : wordsB d s t e = true
          · simp only [if_pos c5, c5, Bool.not_true]; exact spec_ActOk_j0 a b c l d s t e f g hl
          · simp only [if_neg c5, Bool.eq_false_iff.2 c5, Bool.not_false]; exact spec_ActOk_no ..
        · simp only [if_neg c4]; exact spec_ActOk_no ..
      · simp only [if_neg c3]; exact spec_ActOk_no ..
    · simp only [if_neg c2]; exact spec_ActOk_no ..
  · simp only [if_neg c1]; exact spec_ActOk_no ..
theorem spec_l01Var_l0 : ∀ (d : Nat) (x : Int) (out : List Int), 0 ≤ x → x ≤ 9223372036854775807 → x < 128 * big d → out.length + d ≤ 100 → Ev (fun k => spec_l01Var.l0 k x out) (strOfNums (out ++ varL d x))
  | 0, x, out, h0, hm, hx, hl => by
    refine Ev.step (fun k => rfl) ?_
    rw [big_zero] at hx
    simp only [spec_l01Var.l0, if_neg (show ¬ x > 127 by omega), if_pos (show out.length < 140737488355328 by omega), varL]
    exact Ev.now _
  | d + 1, x, out, h0, hm, hx, hl => by
    refine Ev.step (fun k => rfl) ?_
    rw [big_succ] at hx
    by_cases c : x > 127
    · have e1 : wrap64 (Int.tdiv x 128) = x / 128 := by rw [Int.tdiv_eq_ediv_of_nonneg h0]; exact wi (by omega)
      have e2 : (wrap64 ((Int.tmod x 128) + 128)) % 256 = x % 128 + 128 := by rw [Int.tmod_eq_emod_of_nonneg h0, wi (by omega)]; omega
      have ih := spec_l01Var_l0 d (x / 128) (out ++ [x % 128 + 128]) (by omega) (by omega) (by omega) (by simp; omega)
      simp only [spec_l01Var.l0, if_pos c, if_pos (show out.length < 140737488355328 by omega), e1, e2, varL]
      simpa using ih
    · simp only [spec_l01Var.l0, if_neg c, if_pos (show out.length < 140737488355328 by omega), varL]
      exact Ev.now _
theorem spec_l01Var_ev (x : Int) (h0 : 0 ≤ x) (hm : x ≤ 9223372036854775807) : Ev (fun k => spec_l01Var.f k x) (varT x) :=
  spec_l01Var_l0 9 x [] h0 hm (by unfold big; omega) (by simp)
theorem spec_var_ev {x : Int} (h : small x) : Ev (fun k => spec_l01Var.f k x) (varT x) := spec_l01Var_ev x h.1 (by have := h.2; omega)
theorem spec_l05Dot_ev {r s : Int} (hr : small r) (hs : small s) : Ev (fun k => spec_l05Dot.f k r s) (varT r ++ varT s) := by
  unfold spec_l05Dot.f
  have h1 := varT_size r
  have h2 := varT_size s
  refine Ev.bind (spec_var_ev hr) (Ev.bind (spec_var_ev hs) ?_)
  simp only [if_pos (show (varT r).size + (varT s).size ≤ 9223372036854775807 by omega)]
  exact Ev.now _
theorem spec_l05Short_ev (s : ByteArray) (h : s.size ≤ 1000) : Ev (fun k => spec_l05Short.f k s) (shT s) := by
  unfold spec_l05Short.f
  have h1 := varT_size (s.size : Int)
  refine Ev.bind (spec_var_ev ⟨by omega, by omega⟩) ?_
  simp only [if_pos (show (varT (s.size : Int)).size + s.size ≤ 9223372036854775807 by omega)]
  exact Ev.now _
theorem spec_l05Know_l0 (l : List Int) (hl : l.length ≤ 1000) (hx : ∀ x ∈ l, small x) : ∀ d i (out : ByteArray), i + d = l.length → out.size ≤ 10 * i → Ev (fun k => spec_l05Know.l0 k l out (i : Int)) (varTs (l.drop i) out)
  | 0, i, out, hi, ho => by
    refine Ev.step (fun k => rfl) ?_
    simp only [spec_l05Know.l0, if_neg (show ¬ (i : Int) < (l.length : Int) by omega), List.drop_eq_nil_of_le (show l.length ≤ i by omega), varTs]
    exact Ev.now _
  | d + 1, i, out, hi, ho => by
    refine Ev.step (fun k => rfl) ?_
    have hz := varT_size (rd l (i : Int))
    simp only [spec_l05Know.l0, if_pos (show (i : Int) < (l.length : Int) by omega), if_pos (show (0 : Int) ≤ (i : Int) by omega), wr i (by omega), drop_rd l i (by omega), varTs]
    refine Ev.bind (spec_var_ev (hx _ (by rw [rd_get l i (by omega)]; exact List.getElem_mem _))) ?_
    simp only [if_pos (show out.size + (varT (rd l (i : Int))).size ≤ 9223372036854775807 by omega)]
    exact spec_l05Know_l0 l hl hx d (i + 1) _ (by omega) (by rw [ByteArray.size_append]; omega)
theorem spec_l05Know_ev (l : List Int) (hl : l.length ≤ 1000) (hx : ∀ x ∈ l, small x) : Ev (fun k => spec_l05Know.f k l) (varTs l (⟨#[]⟩ : ByteArray)) :=
  spec_l05Know_l0 l hl hx l.length 0 _ (by omega) (by decide)
theorem spec_ActText_ev (a b c : Int) (l : List Int) (d : Int) (s t : ByteArray) (e f g : Int) (hl : l.length ≤ 140737488351232) (hs : s.size ≤ 140737488351232) (ht : t.size ≤ 140737488351232) :
    Ev (fun k => spec_ActText.f k a b c l d s t e f g) (if actB a b c l d s t e f g = true then (actT a b c l d s t e f g, true) else ((⟨#[]⟩ : ByteArray), false)) := by
  unfold spec_ActText.f
  refine Ev.bind (spec_ActOk_ev a b c l d s t e f g hl hs ht) ?_
  by_cases h : actB a b c l d s t e f g = true
  · simp only [if_pos h]
    have o := act_ok h
    have z1 := varT_size a
    have z2 := varT_size b
    have z3 := varT_size c
    have z4 := varTs_len l (⟨#[]⟩ : ByteArray)
    rw [o.len, show (⟨#[]⟩ : ByteArray).size = 0 from rfl] at z4
    have z5 := varT_size d
    have z6 := varT_size (s.size : Int)
    have z7 := varT_size (t.size : Int)
    have z8 := varT_size e
    have z9 := varT_size f
    have z10 := varT_size g
    have z11 := o.obj
    have z12 := o.key
    refine Ev.bind (spec_l05Dot_ev o.rep o.seq) (Ev.bind (spec_var_ev o.time) ?_)
    simp only [if_pos (show (varT a ++ varT b).size + (varT c).size ≤ 9223372036854775807 by simp only [ByteArray.size_append]; omega)]
    refine Ev.bind (spec_l05Know_ev l (by rw [o.len]; omega) o.knew) ?_
    simp only [if_pos (show ((varT a ++ varT b) ++ varT c).size + (varTs l (⟨#[]⟩ : ByteArray)).size ≤ 9223372036854775807 by simp only [ByteArray.size_append]; omega)]
    refine Ev.bind (spec_var_ev o.kind) ?_
    simp only [if_pos (show (((varT a ++ varT b) ++ varT c) ++ varTs l (⟨#[]⟩ : ByteArray)).size + (varT d).size ≤ 9223372036854775807 by simp only [ByteArray.size_append]; omega)]
    refine Ev.bind (spec_l05Short_ev s (by omega)) ?_
    simp only [if_pos (show ((((varT a ++ varT b) ++ varT c) ++ varTs l (⟨#[]⟩ : ByteArray)) ++ varT d).size + (shT s).size ≤ 9223372036854775807 by unfold shT; simp only [ByteArray.size_append]; omega)]
    refine Ev.bind (spec_l05Short_ev t (by omega)) ?_
    simp only [if_pos (show (((((varT a ++ varT b) ++ varT c) ++ varTs l (⟨#[]⟩ : ByteArray)) ++ varT d) ++ shT s).size + (shT t).size ≤ 9223372036854775807 by unfold shT; simp only [ByteArray.size_append]; omega)]
    refine Ev.bind (spec_var_ev o.val) ?_
    simp only [if_pos (show ((((((varT a ++ varT b) ++ varT c) ++ varTs l (⟨#[]⟩ : ByteArray)) ++ varT d) ++ shT s) ++ shT t).size + (varT e).size ≤ 9223372036854775807 by unfold shT; simp only [ByteArray.size_append]; omega)]
    refine Ev.bind (spec_l05Dot_ev o.r o.s) ?_
    simp only [if_pos (show (((((((varT a ++ varT b) ++ varT c) ++ varTs l (⟨#[]⟩ : ByteArray)) ++ varT d) ++ shT s) ++ shT t) ++ varT e).size + (varT f ++ varT g).size ≤ 9223372036854775807 by unfold shT; simp only [ByteArray.size_append]; omega)]
    exact Ev.now _
  · simp only [if_neg h]; exact Ev.now _
theorem impl_in (x lo hi : Int) : impl_within.f x lo hi = some (inB x lo hi) := in_ite x lo hi
theorem impl_KnowOk_l0 (l : List Int) (hl : l.length ≤ 140737488351232) : ∀ d i, i + d = l.length → Ev (fun k => impl_KnowOk.l0 k l l (l.length : Int) (i : Int)) (((l.drop i).all fun x => inB x 0 1000) && ((l.length : Int) == 3))
  | 0, i, hi => by
    refine Ev.step (fun k => rfl) ?_
    simp only [impl_KnowOk.l0, if_neg (show ¬ (i : Int) < (l.length : Int) by omega), List.drop_eq_nil_of_le (show l.length ≤ i by omega), List.all_nil, Bool.true_and]
    exact Ev.now _
  | d + 1, i, hi => by
    refine Ev.step (fun k => rfl) ?_
    have ih := impl_KnowOk_l0 l hl d (i + 1) (by omega)
    simp only [impl_KnowOk.l0, if_pos (show (i : Int) < (l.length : Int) by omega), if_pos (show (0 : Int) ≤ (i : Int) by omega), wr i (by omega), impl_in, Option.bind_some, all_drop l i (by omega)]
    cases inB (rd l (i : Int)) 0 1000
    · exact Ev.now _
    · exact ih
theorem impl_KnowOk_ev (l : List Int) (hl : l.length ≤ 140737488351232) : Ev (fun k => impl_KnowOk.f k l) (knowB l) := impl_KnowOk_l0 l hl l.length 0 (by omega)
theorem impl_DotOk_eq (r s : Int) : impl_DotOk.f r s = some (dotB r s) := by
  unfold impl_DotOk.f dotB
  simp only [impl_in, Option.bind_some]
  split <;> rfl
theorem impl_Knows_ev (l : List Int) (r s : Int) (hl : l.length ≤ 140737488351232) : Ev (fun k => impl_Knows.f k l r s) (knowsB l r s) := by
  unfold impl_Knows.f knowsB
  refine Ev.bind (impl_KnowOk_ev l hl) ?_
  by_cases ka : knowB l = true
  · simp only [if_pos ka, impl_DotOk_eq, Option.bind_some]
    by_cases kd : dotB r s = true
    · simp only [if_pos kd]
      have h1 : 0 ≤ r ∧ r ≤ 2 := by
        unfold dotB at kd
        by_cases c : inB r 0 2 = true
        · exact inB_true.1 c
        · simp [c] at kd
      have h2 : (l.length : Int) = 3 := by
        unfold knowB at ka
        simp only [Bool.and_eq_true, beq_iff_eq] at ka
        exact ka.2
      simp only [if_pos h1.1, if_pos (show r < (l.length : Int) by omega)]
      exact Ev.now _
    · simp only [if_neg kd]; exact Ev.now _
  · simp only [if_neg ka]; exact Ev.now _
theorem impl_NameOk_l0 (s : ByteArray) (hs : s.size ≤ 140737488351232) : ∀ d i, i + d = s.size → Ev (fun k => impl_NameOk.l0 k s (i : Int)) (nameB s d i)
  | 0, i, hi => by
    refine Ev.step (fun k => rfl) ?_
    simp only [impl_NameOk.l0, if_neg (show ¬ (i : Int) < (s.size : Int) by omega), impl_in, Option.bind_some]
    exact Ev.now _
  | d + 1, i, hi => by
    refine Ev.step (fun k => rfl) ?_
    have ih := impl_NameOk_l0 s hs d (i + 1) (by omega)
    have hb := bt_range s (i : Int)
    simp only [impl_NameOk.l0, if_pos (show (i : Int) < (s.size : Int) by omega), if_pos (show (0 : Int) ≤ (i : Int) by omega), wr i (by omega), nameB, wi (n := bt s (i : Int)) (by omega), impl_in, Option.bind_some]
    cases inB (bt s (i : Int)) 97 122
    · exact Ev.now _
    · exact ih
theorem impl_NameOk_ev (s : ByteArray) (hs : s.size ≤ 140737488351232) : Ev (fun k => impl_NameOk.f k s) (nameB s s.size 0) := impl_NameOk_l0 s hs s.size 0 (by omega)
theorem impl_hasKey_eq (kind : Int) : impl_hasKey.f kind = some (inB kind 2 5) := by simp [impl_hasKey.f, impl_in]
theorem impl_hasVal_eq (kind : Int) : impl_hasVal.f kind = some (valuedB kind) := by
  unfold impl_hasVal.f valuedB
  split
  · rfl
  · split <;> rfl
theorem impl_val_ev (kind val : Int) : Ev (fun _ => if val = 0 then some true else (if valuedB kind = true then some (inB val 0 999999) else some false)) (valB kind val) := by
  unfold valB
  by_cases c : val = 0
  · simp only [if_pos c]; exact Ev.now _
  · simp only [if_neg c]
    by_cases c2 : valuedB kind = true
    · simp only [if_pos c2]; exact Ev.now _
    · simp only [if_neg c2]; exact Ev.now _
theorem impl_wordsOk_ev (kind : Int) (obj key : ByteArray) (val : Int) (ho : obj.size ≤ 140737488351232) (hk : key.size ≤ 140737488351232) : Ev (fun k => impl_wordsOk.f k kind obj key val) (wordsB kind obj key val) := by
  unfold impl_wordsOk.f wordsB
  simp only [impl_in, Option.bind_some]
  by_cases c1 : inB kind 1 7 = true
  · simp only [if_pos c1]
    refine Ev.bind (impl_NameOk_ev obj ho) ?_
    show Ev _ (if nm obj = true then _ else _)
    refine Ev.step (fun k => rfl) ?_
    by_cases c2 : nm obj = true
    · have c2' : nameB obj obj.size 0 = true := c2
      simp only [impl_wordsOk.j0, c2', Bool.not_true, Bool.false_eq_true, if_false, if_pos c2, impl_hasKey_eq, impl_hasVal_eq, impl_in, Option.bind_some]
      by_cases c4 : key.toList = []
      · have e := nm_empty c4
        simp only [if_pos c4, e, Bool.false_eq_true, if_false]
        by_cases c3 : inB kind 2 5 = true
        · simp only [if_pos c3]
          refine Ev.bind (impl_NameOk_ev key hk) ?_
          have e' : nameB key key.size 0 = false := e
          simp only [e', Bool.false_eq_true, if_false]; exact Ev.now _
        · simp only [if_neg c3]; exact impl_val_ev kind val
      · simp only [if_neg c4]
        refine Ev.bind (impl_NameOk_ev key hk) ?_
        by_cases c5 : nm key = true
        · have c5' : nameB key key.size 0 = true := c5
          simp only [if_pos c5', if_pos c5]
          by_cases c3 : inB kind 2 5 = true
          · simp only [if_pos c3]; exact impl_val_ev kind val
          · simp only [if_neg c3]; exact Ev.now _
        · have c5' : ¬ nameB key key.size 0 = true := c5
          simp only [if_neg c5', if_neg c5, ite_self]; exact Ev.now _
    · have c2' : nameB obj obj.size 0 = false := Bool.eq_false_iff.2 c2
      simp only [impl_wordsOk.j0, c2', Bool.not_false, if_true, if_neg c2]; exact Ev.now _
  · simp only [if_neg c1]
    refine Ev.step (fun k => rfl) ?_
    simp only [impl_wordsOk.j0, if_true]; exact Ev.now _
theorem impl_ActOk_no (a b c : Int) (l : List Int) (d : Int) (s t : ByteArray) (e f g : Int) : Ev (fun k => impl_ActOk.j0 k true a b c l d s t e f g) false := by
  refine Ev.step (fun k => rfl) ?_
  simp only [impl_ActOk.j0, if_true]; exact Ev.now _
theorem impl_ActOk_j0 (a b c : Int) (l : List Int) (d : Int) (s t : ByteArray) (e f g : Int) (hl : l.length ≤ 140737488351232) (hs : s.size ≤ 140737488351232) (ht : t.size ≤ 140737488351232) : Ev (fun k => impl_ActOk.j0 k false a b c l d s t e f g) (if wordsB d s t e = true then refB d l f g else false) := by
  have W := impl_wordsOk_ev d s t e hs ht
  have K := impl_Knows_ev l f g hl
  refine Ev.step (fun k => rfl) ?_
  simp only [impl_ActOk.j0, Bool.false_eq_true, if_false, refB]
  by_cases c1 : d = 7
  · simp only [if_pos c1]
    refine Ev.bind K ?_
    cases knowsB l f g
    · simp only [Bool.false_eq_true, if_false, ite_self]; exact Ev.now _
    · simp only [if_true]
      refine Ev.bind W ?_
      cases wordsB d s t e <;> exact Ev.now _
  · simp only [if_neg c1]
    by_cases c2 : d = 6
    · simp only [if_pos c2]
      cases (f == 0 && (g == 0))
      · simp only [Bool.false_eq_true, if_false]
        refine Ev.bind K ?_
        cases knowsB l f g
        · simp only [Bool.false_eq_true, if_false, ite_self]; exact Ev.now _
        · simp only [if_true]
          refine Ev.bind W ?_
          cases wordsB d s t e <;> exact Ev.now _
      · simp only [if_true]
        refine Ev.bind W ?_
        cases wordsB d s t e <;> exact Ev.now _
    · simp only [if_neg c2]
      cases (f == 0 && (g == 0))
      · simp only [Bool.false_eq_true, if_false, ite_self]; exact Ev.now _
      · simp only [if_true]
        refine Ev.bind W ?_
        cases wordsB d s t e <;> exact Ev.now _
theorem impl_ActOk_ev (a b c : Int) (l : List Int) (d : Int) (s t : ByteArray) (e f g : Int) (hl : l.length ≤ 140737488351232) (hs : s.size ≤ 140737488351232) (ht : t.size ≤ 140737488351232) : Ev (fun k => impl_ActOk.f k a b c l d s t e f g) (actB a b c l d s t e f g) := by
  unfold impl_ActOk.f actB
  simp only [impl_DotOk_eq, impl_in, Option.bind_some]
  by_cases c1 : dotB a b = true
  · have h1 := dotB_true c1
    simp only [if_pos c1]
    refine Ev.bind (impl_KnowOk_ev l hl) ?_
    by_cases c2 : knowB l = true
    · have h2 := know_len c2
      simp only [if_pos c2, if_pos h1.1.1, if_pos (show a < (l.length : Int) by omega), wi (n := b - 1) (by omega)]
      by_cases c3 : rd l a = b - 1
      · simp only [if_pos c3]
        by_cases c4 : inB c 1 10000 = true
        · simp only [if_pos c4, c4, Bool.not_true]; exact impl_ActOk_j0 a b c l d s t e f g hl hs ht
        · simp only [if_neg c4, Bool.eq_false_iff.2 c4, Bool.not_false]; exact impl_ActOk_no ..
      · simp only [if_neg c3]; exact impl_ActOk_no ..
    · simp only [if_neg c2]; exact impl_ActOk_no ..
  · simp only [if_neg c1]; exact impl_ActOk_no ..
theorem impl_VarText_l0 : ∀ (d : Nat) (x : Int) (out : List Int), 0 ≤ x → x ≤ 9223372036854775807 → x < 128 * big d → out.length + d ≤ 100 → Ev (fun k => impl_VarText.l0 k x out) (strOfNums (out ++ varL d x), true)
  | 0, x, out, h0, hm, hx, hl => by
    refine Ev.step (fun k => rfl) ?_
    rw [big_zero] at hx
    simp only [impl_VarText.l0, if_neg (show ¬ x > 127 by omega), if_pos (show out.length < 140737488355328 by omega), varL]
    exact Ev.now _
  | d + 1, x, out, h0, hm, hx, hl => by
    refine Ev.step (fun k => rfl) ?_
    rw [big_succ] at hx
    by_cases c : x > 127
    · have e1 : wrap64 (Int.tdiv x 128) = x / 128 := by rw [Int.tdiv_eq_ediv_of_nonneg h0]; exact wi (by omega)
      have e2 : (wrap64 ((Int.tmod x 128) + 128)) % 256 = x % 128 + 128 := by rw [Int.tmod_eq_emod_of_nonneg h0, wi (by omega)]; omega
      have ih := impl_VarText_l0 d (x / 128) (out ++ [x % 128 + 128]) (by omega) (by omega) (by omega) (by simp; omega)
      simp only [impl_VarText.l0, if_pos c, if_pos (show out.length < 140737488355328 by omega), e1, e2, varL]
      simpa using ih
    · simp only [impl_VarText.l0, if_neg c, if_pos (show out.length < 140737488355328 by omega), varL]
      exact Ev.now _
theorem impl_VarText_ev (x : Int) : Ev (fun k => impl_VarText.f k x) (if inB x 0 1000000000 = true then (varT x, true) else ((⟨#[]⟩ : ByteArray), false)) := by
  unfold impl_VarText.f
  simp only [impl_in, Option.bind_some]
  by_cases c : inB x 0 1000000000 = true
  · simp only [if_pos c]
    have := inB_true.1 c
    exact impl_VarText_l0 9 x [] (by omega) (by omega) (by unfold big; omega) (by simp)
  · simp only [if_neg c]
    exact Ev.now _
theorem impl_ShortText_ev (s : ByteArray) (hs : s.size ≤ 140737488351232) : Ev (fun k => impl_ShortText.f k s) (shortT s) := by
  unfold impl_ShortText.f shortT
  by_cases c : (s.size : Int) > 20000
  · simp only [if_pos c]; exact Ev.now _
  · simp only [if_neg c]
    refine Ev.bind (impl_VarText_ev _) ?_
    have := varT_size (s.size : Int)
    simp only [if_pos (inB_true.2 (show 0 ≤ (s.size : Int) ∧ (s.size : Int) ≤ 1000000000 by omega)), if_pos (show (varT (s.size : Int)).size + s.size ≤ 9223372036854775807 by omega)]
    exact Ev.now _
theorem impl_var_ev {x : Int} (h : small x) : Ev (fun k => impl_VarText.f k x) (varT x, true) := by
  have := impl_VarText_ev x
  rwa [if_pos (inB_true.2 h)] at this
theorem impl_varTexts_l0 (l : List Int) (hl : l.length ≤ 1000) (hx : ∀ x ∈ l, small x) : ∀ d i (out : ByteArray), i + d = l.length → out.size ≤ 10 * i → Ev (fun k => impl_varTexts.l0 k out l (l.length : Int) (i : Int)) (varTs (l.drop i) out)
  | 0, i, out, hi, ho => by
    refine Ev.step (fun k => rfl) ?_
    simp only [impl_varTexts.l0, if_neg (show ¬ (i : Int) < (l.length : Int) by omega), List.drop_eq_nil_of_le (show l.length ≤ i by omega), varTs]
    exact Ev.now _
  | d + 1, i, out, hi, ho => by
    refine Ev.step (fun k => rfl) ?_
    have hz := varT_size (rd l (i : Int))
    simp only [impl_varTexts.l0, if_pos (show (i : Int) < (l.length : Int) by omega), if_pos (show (0 : Int) ≤ (i : Int) by omega), wr i (by omega), drop_rd l i (by omega), varTs]
    refine Ev.bind (impl_var_ev (hx _ (by rw [rd_get l i (by omega)]; exact List.getElem_mem _))) ?_
    simp only [if_pos (show out.size + (varT (rd l (i : Int))).size ≤ 9223372036854775807 by omega)]
    exact impl_varTexts_l0 l hl hx d (i + 1) _ (by omega) (by rw [ByteArray.size_append]; omega)
theorem impl_varTexts_ev (l : List Int) (hl : l.length ≤ 1000) (hx : ∀ x ∈ l, small x) : Ev (fun k => impl_varTexts.f k l) (varTs l (⟨#[]⟩ : ByteArray)) :=
  impl_varTexts_l0 l hl hx l.length 0 _ (by omega) (by decide)
theorem impl_short_ev (s : ByteArray) (h : s.size ≤ 1000) : Ev (fun k => impl_ShortText.f k s) (shT s, true) := by
  have := impl_ShortText_ev s (by omega)
  unfold shortT at this
  rwa [if_neg (show ¬ (s.size : Int) > 20000 by omega)] at this
theorem rs0 (s t : ByteArray) : rdOf ByteArray.empty [s, t] 0 = s := by simp [rdOf]
theorem rs1 (s t : ByteArray) : rdOf ByteArray.empty [s, t] 1 = t := by simp [rdOf]
theorem impl_shortTexts_ev (s t : ByteArray) (hs : s.size ≤ 1000) (ht : t.size ≤ 1000) : Ev (fun k => impl_shortTexts.f k [s, t]) (shT s ++ shT t) := by
  have z6 := varT_size (s.size : Int)
  have z7 := varT_size (t.size : Int)
  have hz : (shT s).size ≤ 1010 := by unfold shT; rw [ByteArray.size_append]; omega
  have hz2 : (shT t).size ≤ 1010 := by unfold shT; rw [ByteArray.size_append]; omega
  unfold impl_shortTexts.f
  have l2 : (([s, t] : List ByteArray).length : Int) = 2 := by simp
  simp only [l2]
  refine Ev.step (fun k => rfl) ?_
  simp only [impl_shortTexts.l0, l2, if_pos (show (0 : Int) < 2 by omega), if_pos (show (0 : Int) ≤ 0 by omega), rs0, w1]
  refine Ev.bind (impl_short_ev s hs) ?_
  have e0 : (⟨#[]⟩ : ByteArray) ++ shT s = shT s := ByteArray.empty_append
  have n0 : (⟨#[]⟩ : ByteArray).size = 0 := by decide
  simp only [n0, if_pos (show 0 + (shT s).size ≤ 9223372036854775807 by omega), e0]
  refine Ev.step (fun k => rfl) ?_
  simp only [impl_shortTexts.l0, l2, if_pos (show (1 : Int) < 2 by omega), if_pos (show (0 : Int) ≤ 1 by omega), rs1, w2]
  refine Ev.bind (impl_short_ev t ht) ?_
  simp only [if_pos (show (shT s).size + (shT t).size ≤ 9223372036854775807 by omega)]
  refine Ev.step (fun k => rfl) ?_
  simp only [impl_shortTexts.l0, if_neg (show ¬ (2 : Int) < 2 by omega)]
  exact Ev.now _
theorem three_varTs (a b c : Int) : varTs [a, b, c] (⟨#[]⟩ : ByteArray) = (varT a ++ varT b) ++ varT c := by
  simp only [varTs]
  rw [show (⟨#[]⟩ : ByteArray) ++ varT a = varT a from ByteArray.empty_append]
theorem one_varTs (a : Int) : varTs [a] (⟨#[]⟩ : ByteArray) = varT a := by
  simp only [varTs]
  exact ByteArray.empty_append
theorem impl_ActText_ev (a b c : Int) (l : List Int) (d : Int) (s t : ByteArray) (e f g : Int) (hl : l.length ≤ 140737488351232) (hs : s.size ≤ 140737488351232) (ht : t.size ≤ 140737488351232) :
    Ev (fun k => impl_ActText.f k a b c l d s t e f g) (if actB a b c l d s t e f g = true then (actT a b c l d s t e f g, true) else ((⟨#[]⟩ : ByteArray), false)) := by
  unfold impl_ActText.f
  refine Ev.bind (impl_ActOk_ev a b c l d s t e f g hl hs ht) ?_
  by_cases h : actB a b c l d s t e f g = true
  · simp only [if_pos h]
    have o := act_ok h
    have z1 := varT_size a
    have z2 := varT_size b
    have z3 := varT_size c
    have z4 := varTs_len l (⟨#[]⟩ : ByteArray)
    rw [o.len, show (⟨#[]⟩ : ByteArray).size = 0 from rfl] at z4
    have z5 := varT_size d
    have z6 := varT_size (s.size : Int)
    have z7 := varT_size (t.size : Int)
    have z8 := varT_size e
    have z9 := varT_size f
    have z10 := varT_size g
    have z11 := o.obj
    have z12 := o.key
    have v1 := impl_varTexts_ev [a, b, c] (by simp) (by simp; exact ⟨o.rep, o.seq, o.time⟩)
    have v2 := impl_varTexts_ev [d] (by simp) (by simp; exact o.kind)
    have v3 := impl_varTexts_ev [e, f, g] (by simp) (by simp; exact ⟨o.val, o.r, o.s⟩)
    rw [three_varTs] at v1 v3
    rw [one_varTs] at v2
    refine Ev.bind v1 (Ev.bind (impl_varTexts_ev l (by rw [o.len]; omega) o.knew) ?_)
    simp only [if_pos (show ((varT a ++ varT b) ++ varT c).size + (varTs l (⟨#[]⟩ : ByteArray)).size ≤ 9223372036854775807 by simp only [ByteArray.size_append]; omega)]
    refine Ev.bind v2 ?_
    simp only [if_pos (show (((varT a ++ varT b) ++ varT c) ++ varTs l (⟨#[]⟩ : ByteArray)).size + (varT d).size ≤ 9223372036854775807 by simp only [ByteArray.size_append]; omega)]
    refine Ev.bind (impl_shortTexts_ev s t (by omega) (by omega)) ?_
    simp only [if_pos (show ((((varT a ++ varT b) ++ varT c) ++ varTs l (⟨#[]⟩ : ByteArray)) ++ varT d).size + (shT s ++ shT t).size ≤ 9223372036854775807 by unfold shT; simp only [ByteArray.size_append]; omega)]
    refine Ev.bind v3 ?_
    simp only [if_pos (show (((((varT a ++ varT b) ++ varT c) ++ varTs l (⟨#[]⟩ : ByteArray)) ++ varT d) ++ (shT s ++ shT t)).size + ((varT e ++ varT f) ++ varT g).size ≤ 9223372036854775807 by unfold shT; simp only [ByteArray.size_append]; omega)]
    have eq : ((((((varT a ++ varT b) ++ varT c) ++ varTs l (⟨#[]⟩ : ByteArray)) ++ varT d) ++ (shT s ++ shT t)) ++ ((varT e ++ varT f) ++ varT g)) = actT a b c l d s t e f g := by
      unfold actT; simp only [ByteArray.append_assoc]
    rw [eq]
    exact Ev.now _
  · simp only [if_neg h]; exact Ev.now _
theorem FnExactActText : laws_FnExactActText.Pure := by
  intro a b c l d s t e f g _ _ _ hl _ hs ht _ _ _
  refine Ev.rounds ?_
  unfold laws_FnExactActText.f
  obtain ⟨r, hr, hc⟩ := szAct_ex a b c l d s t e f g hl.1 hs ht 1048576 (by omega)
  simp only [hr, Option.bind_some]
  by_cases c1 : r < 0
  · simp only [if_pos c1]; exact Ev.now _
  simp only [if_neg c1]
  have t1 := toAct_ev a b c l d s t e f g (by omega)
  refine Ev.bind t1 (Ev.bind (spec_ActText_ev a b c l d s t e f g (by omega) (by omega) (by omega)) (Ev.bind t1 (Ev.bind (impl_ActText_ev a b c l d s t e f g (by omega) (by omega) (by omega)) ?_)))
  simp only [if_true, bne_self_eq_false]
  refine Ev.step (fun k => rfl) ?_
  simp only [laws_FnExactActText.j0, Bool.false_eq_true, if_false]
  refine Ev.bind t1 (Ev.bind (eqAct_ev a b c l d s t e f g (by omega)) ?_)
  simp only [if_true]
  exact Ev.now _
end Go.Proofs.Ytmohbiagcbfkpaa.Pure
