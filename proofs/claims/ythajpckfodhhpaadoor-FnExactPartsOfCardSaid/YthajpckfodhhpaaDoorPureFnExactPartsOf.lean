/- The program's PartsOf parts every line into the words into which the reference's PartsOf parts it, in memory of its own (lines past the law's bound answer true at once).
No condition beyond those of the given row. -/
import Derived.Test.YthajpckfodhhpaaDoorQPartsx0
import Derived.Test.YthajpckfodhhpaaDoorQPartsx1
import Derived.Test.YthajpckfodhhpaaDoorQPartsx2
import Derived.Test.YthajpckfodhhpaaDoorQPartsx3
import Derived.Test.YthajpckfodhhpaaDoorStFnExactPartsOf
import Derived.Test.YthajpckfodhhpaaDoorPlain
namespace Go.Proofs.YthajpckfodhhpaaDoor.Pure
open Go.RowKit Go.Proofs.YthajpckfodhhpaaDoor.QParts Go.Proofs.YthajpckfodhhpaaDoor.Plain Go.Proofs.YthajpckfodhhpaaDoorW.PrintWords Go.Proofs.YthajpckfodhhpaaDoorW.PrintLast Go.Proofs.YthajpckfodhhpaaDoorW.PrintMore
set_option linter.unusedSimpArgs false
set_option linter.unusedVariables false

theorem toL (s : ByteArray) : s.toList = s.data.toList := ByteArray.toList_eq s
theorem ext_eq {a b : ByteArray} (h : a.toList = b.toList) : a = b := by
  rw [toL, toL] at h
  cases a; cases b; simp at h; rw [h]
theorem len_toL (s : ByteArray) : s.toList.length = s.size := by rw [toL, Array.length_toList]; rfl
theorem app_toL (a b : ByteArray) : (a ++ b).toList = a.toList ++ b.toList := by
  simp only [toL]; simp
theorem ext_toL (s : ByteArray) (a b : Nat) : (s.extract a b).toList = (s.toList.drop a).take (b - a) := by
  rw [toL, toL]; simp

/-- The words of a text, a word's first bytes read already. -/
def wl : List UInt8 → List UInt8 → List (List UInt8)
  | cur, [] => if cur = [] then [] else [cur]
  | cur, c :: r => if c = 32 then (if cur = [] then wl [] r else cur :: wl [] r) else wl (cur ++ [c]) r
theorem split_blank (r : List UInt8) : Lib.split (32 :: r) [32] = [] :: Lib.split r [32] := by
  unfold Lib.split
  have hix : Lib.index (32 :: r) [32] = 0 := by rw [Lib.index]; simp [List.isPrefixOf]
  rw [Lib.count_cons_eq, Nat.add_comm, Lib.splitK, hix]
  simp
theorem split_other (b : UInt8) (hb : b ≠ 32) (r h : List UInt8) (t : List (List UInt8)) (e : Lib.split r [32] = h :: t) : Lib.split (b :: r) [32] = (b :: h) :: t := by
  unfold Lib.split at e ⊢
  have hp : ([32] : List UInt8).isPrefixOf (b :: r) = false := by simp [List.isPrefixOf, Ne.symm hb]
  have hix : Lib.index (b :: r) [32] = if Lib.index r [32] == -1 then -1 else Lib.index r [32] + 1 := by rw [Lib.index, hp]; simp
  rw [Lib.count_cons_ne b 32 r hb]
  cases hk : Lib.count r [32] with
  | zero =>
    rw [hk] at e
    simp only [Lib.splitK] at e ⊢
    injection e with e1 e2
    rw [← e1, ← e2]
  | succ k =>
    rw [hk] at e
    have hm : Lib.index r [32] ≠ -1 := fun hm => by rw [Lib.count_miss hm] at hk; cases hk
    have hge := Lib.index_ge r [32]
    have hbe : (Lib.index r [32] == -1) = false := by simp [hm]
    rw [Lib.splitK, hix, hbe]
    rw [Lib.splitK, hbe] at e
    simp only [Bool.false_eq_true, if_false] at e ⊢
    have hne : (Lib.index r [32] + 1 == -1) = false := by simp; omega
    rw [hne]
    simp only [Bool.false_eq_true, if_false]
    injection e with e1 e2
    have e3 : (Lib.index r [32] + 1).toNat = (Lib.index r [32]).toNat + 1 := by omega
    rw [e3, ← e1, ← e2]
    simp [Nat.add_right_comm]
theorem split_ne : ∀ l : List UInt8, ∃ h t, Lib.split l [32] = h :: t
  | [] => ⟨[], [], by unfold Lib.split; rw [Lib.count_miss (by simp [Lib.index])]; rfl⟩
  | b :: r => by
    obtain ⟨h, t, e⟩ := split_ne r
    by_cases c : b = 32
    · subst c; exact ⟨_, _, split_blank r⟩
    · exact ⟨_, _, split_other b c r h t e⟩
def nonE (x : List UInt8) : Bool := decide (x ≠ [])
theorem wl_split : ∀ (l cur h : List UInt8) (t : List (List UInt8)), Lib.split l [32] = h :: t → wl cur l = ((cur ++ h) :: t).filter nonE
  | [], cur, h, t, e => by
    have e0 : Lib.split [] [32] = [[]] := by unfold Lib.split; rw [Lib.count_miss (by simp [Lib.index])]; rfl
    rw [e0] at e
    injection e with e1 e2
    rw [← e1, ← e2, List.append_nil, wl]
    by_cases c : cur = []
    · rw [if_pos c, c]; rfl
    · rw [if_neg c]; simp [nonE, c]
  | b :: r, cur, h, t, e => by
    obtain ⟨h', t', e'⟩ := split_ne r
    by_cases c : b = 32
    · subst c
      rw [split_blank, e'] at e
      injection e with e1 e2
      rw [← e1, ← e2, List.append_nil, wl, if_pos rfl, wl_split r [] h' t' e', List.nil_append]
      generalize h' :: t' = z
      by_cases d : cur = []
      · rw [if_pos d, d, List.filter_cons_of_neg (by simp [nonE])]
      · rw [if_neg d, List.filter_cons_of_pos (by simp [nonE, d])]
    · rw [split_other b c r h' t' e'] at e
      injection e with e1 e2
      rw [← e1, ← e2, wl, if_neg c, wl_split r (cur ++ [b]) h' t' e']
      simp
theorem map_toL_inj : ∀ (a b : List ByteArray), a.map (·.toList) = b.map (·.toList) → a = b
  | [], [], _ => rfl
  | [], _ :: _, h => by simp at h
  | _ :: _, [], h => by simp at h
  | x :: a, y :: b, h => by
    simp only [List.map_cons] at h
    injection h with h1 h2
    rw [ext_eq h1, map_toL_inj a b h2]
def nonB (x : ByteArray) : Bool := decide (x.toList ≠ [])
/-- What is left of the pieces of a text when the empty ones are dropped: its words. -/
theorem pieces_words (s : ByteArray) : ((Lib.splitB (⟨#[32]⟩ : ByteArray) 0 (Lib.countB s (⟨#[32]⟩ : ByteArray)) s).filter nonB).map (·.toList) = wl [] s.toList := by
  have e := Lib.splitB_data (⟨#[32]⟩ : ByteArray) 0 (Lib.countB s (⟨#[32]⟩ : ByteArray)) s
  obtain ⟨h, t, e2⟩ := split_ne s.data.toList
  have e3 : (Lib.splitB (⟨#[32]⟩ : ByteArray) 0 (Lib.countB s (⟨#[32]⟩ : ByteArray)) s).map (·.toList) = h :: t := by
    rw [← e2, show Lib.split s.data.toList [32] = Lib.splitK (⟨#[32]⟩ : ByteArray).data.toList 0 (Lib.countB s (⟨#[32]⟩ : ByteArray)) s.data.toList from rfl, ← e]
    apply List.map_congr_left
    intro x _
    exact toL x
  rw [toL s, wl_split _ [] h t e2, List.nil_append, ← e3, List.filter_map]
  rfl
/-- The words as the reference gathers them: d bytes are left from byte i on, a word began at b. -/
def wsF (s : ByteArray) : Nat → Nat → Nat → List ByteArray → List ByteArray
  | 0, b, i, out => if b < i then out ++ [s.extract b i] else out
  | d + 1, b, i, out => if bt s (i : Int) = 32 then wsF s d (i + 1) (i + 1) (if b < i then out ++ [s.extract b i] else out) else wsF s d b (i + 1) out
theorem btI (s : ByteArray) (i : Nat) (h : i < s.size) : ∃ c, s.toList.drop i = c :: s.toList.drop (i + 1) ∧ bt s (i : Int) = (c.toNat : Int) := by
  refine ⟨s.toList[i]'(by rw [len_toL]; exact h), List.drop_eq_getElem_cons (by rw [len_toL]; exact h), ?_⟩
  unfold bt
  simp only [toL]
  simp [h, ByteArray.getElem_eq_getElem_data]
theorem ext_ne (s : ByteArray) (b i : Nat) (hi : i ≤ s.size) : (s.toList.drop b).take (i - b) = [] ↔ ¬ b < i := by
  rw [← List.length_eq_zero_iff, List.length_take, List.length_drop, len_toL]
  omega
theorem wsF_map (s : ByteArray) : ∀ (d b i : Nat) (out : List ByteArray), i + d = s.size → b ≤ i → (wsF s d b i out).map (·.toList) = out.map (·.toList) ++ wl ((s.toList.drop b).take (i - b)) (s.toList.drop i)
  | 0, b, i, out, hi, hb => by
    rw [List.drop_eq_nil_of_le (show s.toList.length ≤ i by rw [len_toL]; omega), wsF, wl]
    by_cases c : b < i
    · rw [if_pos c, if_neg (fun h => (ext_ne s b i (by omega)).1 h c), List.map_append, List.map_cons, List.map_nil, ext_toL]
    · rw [if_neg c, if_pos ((ext_ne s b i (by omega)).2 c), List.append_nil]
  | d + 1, b, i, out, hi, hb => by
    obtain ⟨x, e1, e2⟩ := btI s i (by omega)
    rw [e1, wsF, wl, e2]
    by_cases c : x = 32
    · subst c
      rw [if_pos (show (((32 : UInt8).toNat : Nat) : Int) = 32 from rfl), if_pos rfl, wsF_map s d (i + 1) (i + 1) _ (by omega) (by omega), Nat.sub_self, List.take_zero]
      by_cases c : b < i
      · rw [if_pos c, if_neg (fun h => (ext_ne s b i (by omega)).1 h c), List.map_append, List.map_cons, List.map_nil, ext_toL, List.append_assoc]; rfl
      · rw [if_neg c, if_pos ((ext_ne s b i (by omega)).2 c)]
    · rw [if_neg c, if_neg (fun h : (x.toNat : Int) = 32 => c (UInt8.toNat_inj.1 (by have : (32 : UInt8).toNat = 32 := rfl; omega))), wsF_map s d b (i + 1) out (by omega) (by omega)]
      congr 2
      have hx : (s.toList.drop b)[i - b]? = some x := by
        rw [List.getElem?_drop, show b + (i - b) = i by omega]
        have := congrArg (fun l => l[0]?) e1
        simpa using this
      rw [show i + 1 - b = i - b + 1 by omega, List.take_add_one, hx]
      rfl

def p10 (d : Nat) : Int := 10 ^ d
theorem p10_succ (d : Nat) : p10 (d + 1) = 10 * p10 d := by unfold p10; rw [Int.pow_succ]; omega
theorem p10_zero : p10 0 = 1 := rfl
/-- The text that marks place x: behind d figures at most. -/
def mtF : Nat → Int → ByteArray → ByteArray
  | 0, _, out => (⟨#[109]⟩ : ByteArray) ++ out
  | d + 1, x, out => if x > 0 then mtF d (x / 10) (strOfNums [(48 + x % 10) % 256] ++ out) else (⟨#[109]⟩ : ByteArray) ++ out
def mt (x : Int) : ByteArray := if x ≤ 0 then (⟨#[109, 48]⟩ : ByteArray) else mtF 20 x (⟨#[]⟩ : ByteArray)
theorem markText_l0 : ∀ (d : Nat) (x : Int) (out : ByteArray), 0 ≤ x → x ≤ 9223372036854775807 → x < p10 d → out.size + d ≤ 1000 → Ev (fun k => laws_markText.l0 k x out) (mtF d x out)
  | 0, x, out, h0, hm, hx, ho => by
    rw [p10_zero] at hx
    refine Ev.step (fun k => rfl) ?_
    simp only [laws_markText.l0, if_neg (show ¬ x > 0 by omega), if_pos (show 1 + out.size ≤ 9223372036854775807 by omega), mtF]
    exact Ev.now _
  | d + 1, x, out, h0, hm, hx, ho => by
    rw [p10_succ] at hx
    refine Ev.step (fun k => rfl) ?_
    by_cases c : x > 0
    · have e1 : wrap64 (Int.tdiv x 10) = x / 10 := by rw [Int.tdiv_eq_ediv_of_nonneg h0]; exact wi (by omega)
      have e2 : (wrap64 (48 + Int.tmod x 10)) % 256 = (48 + x % 10) % 256 := by rw [Int.tmod_eq_emod_of_nonneg h0, wi (by omega)]
      have hz : (strOfNums [(48 + x % 10) % 256]).size = 1 := by rw [strOfNums_size]; rfl
      simp only [laws_markText.l0, if_pos c, Option.bind_some, e1, e2, hz, if_pos (show 1 + out.size ≤ 9223372036854775807 by omega), mtF]
      exact markText_l0 d (x / 10) _ (by omega) (by omega) (by omega) (by rw [ByteArray.size_append, hz]; omega)
    · simp only [laws_markText.l0, if_neg c, if_pos (show 1 + out.size ≤ 9223372036854775807 by omega), mtF]
      exact Ev.now _
theorem mt_ev (x : Int) (h0 : 0 ≤ x) (hm : x ≤ 9000000000000000) : Ev (fun k => laws_markText.f k x) (mt x) := by
  unfold laws_markText.f mt
  by_cases c : x ≤ 0
  · simp only [if_pos c]; exact Ev.now _
  · simp only [if_neg c]
    exact markText_l0 20 x _ h0 (by omega) (by unfold p10; omega) (by decide)

theorem eqStringS_l0 (l : List ByteArray) (hl : l.length ≤ 140737488351232) : ∀ d i, i + d = l.length → Ev (fun k => laws_eqStringS.l0 k l l (i : Int)) true
  | 0, i, hi => by
    refine Ev.step (fun k => rfl) ?_
    simp only [laws_eqStringS.l0, if_neg (show ¬ (i : Int) < (l.length : Int) by omega)]
    exact Ev.now _
  | d + 1, i, hi => by
    refine Ev.step (fun k => rfl) ?_
    simp only [laws_eqStringS.l0, if_pos (show (i : Int) < (l.length : Int) by omega), if_pos (show (0 : Int) ≤ (i : Int) by omega), if_true, wr i (by omega)]
    exact eqStringS_l0 l hl d (i + 1) (by omega)
theorem eqStringS_ev (l : List ByteArray) (hl : l.length ≤ 140737488351232) : Ev (fun k => laws_eqStringS.f k l l) true := by
  unfold laws_eqStringS.f
  simp only [if_true]
  exact eqStringS_l0 l hl l.length 0 (by omega)
theorem markStringS_l0 (l : List ByteArray) (hl : l.length ≤ 1000000000) (m : Int) (hm : 0 ≤ m ∧ m ≤ 1000000000000) : ∀ d i, i + d = l.length → Ev (fun k => laws_markStringS.l0 k (marks mt 1 i m ++ l.drop i) (m + i * 1) (i : Int)) (m + (l.length : Int) * 1, marks mt 1 l.length m)
  | 0, i, hi => by
    refine Ev.step (fun k => rfl) ?_
    simp only [laws_markStringS.l0, marks_mid mt 1 l m i (by omega), if_neg (show ¬ (i : Int) < (l.length : Int) by omega)]
    rw [List.drop_eq_nil_of_le (show l.length ≤ i by omega), List.append_nil, show i = l.length by omega]
    exact Ev.now _
  | d + 1, i, hi => by
    refine Ev.step (fun k => rfl) ?_
    have ih := markStringS_l0 l hl m hm d (i + 1) (by omega)
    have hlen := marks_mid mt 1 l m i (by omega)
    have hset := marks_set mt 1 l m i (by omega) _ rfl
    simp only [laws_markStringS.l0, hlen, if_pos (show (i : Int) < (l.length : Int) by omega), if_pos (show (0 : Int) ≤ (i : Int) by omega), wr i (by omega), wi (n := m + (i : Int) * 1 + 1) (by omega)]
    refine Ev.bind (mt_ev (m + (i : Int) * 1) (by omega) (by omega)) ?_
    rw [hset, show m + (i : Int) * 1 + 1 = m + ((i + 1 : Nat) : Int) * 1 by omega]
    exact ih
theorem markStringS_ev (l : List ByteArray) (hl : l.length ≤ 1000000000) (m : Int) (hm : 0 ≤ m ∧ m ≤ 1000000000000) : Ev (fun k => laws_markStringS.f k l m) (m + (l.length : Int) * 1, marks mt 1 l.length m) := by
  have := markStringS_l0 l hl m hm l.length 0 (by omega)
  simpa [laws_markStringS.f, marks] using this
theorem heldStringS_l0 (n : Nat) (hn : n ≤ 1000000000) (m : Int) (hm : 0 ≤ m ∧ m ≤ 1000000000000) : ∀ d i, i + d = n → Ev (fun k => laws_heldStringS.l0 k (marks mt 1 n m) (m + i * 1) (i : Int)) (m + (n : Int) * 1)
  | 0, i, hi => by
    refine Ev.step (fun k => rfl) ?_
    simp only [laws_heldStringS.l0, marks_len, if_neg (show ¬ (i : Int) < (n : Int) by omega)]
    rw [show i = n by omega]
    exact Ev.now _
  | d + 1, i, hi => by
    refine Ev.step (fun k => rfl) ?_
    have ih := heldStringS_l0 n hn m hm d (i + 1) (by omega)
    have g : rdOf ByteArray.empty (marks mt 1 n m) (i : Int) = mt (m + (i : Int) * 1) := by
      unfold rdOf
      rw [Int.toNat_natCast, marks_get mt 1 _ n m i (by omega)]
    simp only [laws_heldStringS.l0, marks_len, if_pos (show (i : Int) < (n : Int) by omega), if_pos (show (0 : Int) ≤ (i : Int) by omega), wr i (by omega), g, wi (n := m + (i : Int) * 1 + 1) (by omega)]
    refine Ev.bind (mt_ev (m + (i : Int) * 1) (by omega) (by omega)) ?_
    simp only [if_true]
    rw [show m + (i : Int) * 1 + 1 = m + ((i + 1 : Nat) : Int) * 1 by omega]
    exact ih
theorem heldStringS_ev (n : Nat) (hn : n ≤ 1000000000) (m : Int) (hm : 0 ≤ m ∧ m ≤ 1000000000000) : Ev (fun k => laws_heldStringS.f k (marks mt 1 n m) m) (m + (n : Int) * 1) := by
  have := heldStringS_l0 n hn m hm n 0 (by omega)
  simpa [laws_heldStringS.f] using this

theorem impl_in (x lo hi : Int) : impl_within.f x lo hi = some (inB x lo hi) := in_ite x lo hi

/-- A figure to the base sixteen. -/
def fig (v : Int) : Int := if v < 10 then 48 + v else 87 + v
/-- The figures of the bytes from i on. -/
def hexL (s : ByteArray) : Nat → Nat → List Int → List Int
  | 0, _, out => out
  | d + 1, i, out => hexL s d (i + 1) (out ++ [fig (bt s i / 16), fig (bt s i % 16)])
theorem bt_rng (s : ByteArray) (i : Int) : 0 ≤ bt s i ∧ bt s i < 256 := by
  unfold bt
  split
  · rename_i h
    have := UInt8.toNat_lt (s[i.toNat]'h)
    omega
  · omega
theorem td {n : Int} (m : Int) (h : 0 ≤ n) (hm : 0 < m) : Int.tdiv n m = n / m := Int.tdiv_eq_ediv_of_nonneg h
theorem tm {n : Int} (m : Int) (h : 0 ≤ n) : Int.tmod n m = n % m := Int.tmod_eq_emod_of_nonneg h

def gdF (s : ByteArray) : Nat → Nat → Bool
  | 0, _ => true
  | d + 1, i => if bt s (i : Int) < 32 then false else if bt s (i : Int) > 126 then false else gdF s d (i + 1)
/-- No more than ten words. -/
def finW (W : List ByteArray) : List ByteArray × Bool := if (W.length : Int) > 10 then ([], false) else (W, true)
def partsT (s : ByteArray) : List ByteArray × Bool := if (s.size : Int) > 600 then ([], false) else if gdF s s.size 0 = true then finW (wsF s s.size 0 0 []) else ([], false)
theorem spec_Parts_l0 (s : ByteArray) (hs : s.size ≤ 600) : ∀ (d b i : Nat) (out : List ByteArray), i + d = s.size → b ≤ i → out.length ≤ i → Ev (fun k => spec_PartsOf.l0 k s out (b : Int) (i : Int)) (if gdF s d i = true then finW (wsF s d b i out) else ([], false))
  | 0, b, i, out, hi, hb, ho => by
    have fin (W : List ByteArray) : Ev (fun k => spec_PartsOf.l0 k s W ((i + 1 : Nat) : Int) ((i + 1 : Nat) : Int)) (finW W) := by
      refine Ev.step (fun k => rfl) ?_
      simp only [spec_PartsOf.l0, if_neg (show ¬ ((i + 1 : Nat) : Int) ≤ (s.size : Int) by omega)]
      unfold finW
      by_cases c : (W.length : Int) > 10
      · simp only [if_pos c]; exact Ev.now _
      · simp only [if_neg c]; exact Ev.now _
    refine Ev.step (fun k => rfl) ?_
    simp only [spec_PartsOf.l0, if_pos (show (i : Int) ≤ (s.size : Int) by omega), if_neg (show ¬ (i : Int) < (s.size : Int) by omega), gdF, if_true, wsF]
    refine Ev.step (fun k => rfl) ?_
    simp only [spec_PartsOf.j1, Bool.false_eq_true, if_false, if_neg (show ¬ (i : Int) < (s.size : Int) by omega)]
    refine Ev.step (fun k => rfl) ?_
    by_cases c : b < i
    · simp only [spec_PartsOf.j2, Bool.false_eq_true, if_false, if_pos (show (b : Int) < (i : Int) by omega), if_pos (show (0 : Int) ≤ (b : Int) by omega), if_pos (show (b : Int) ≤ (i : Int) by omega), if_pos (show (i : Int) ≤ (s.size : Int) by omega), if_pos (show out.length < 8796093022208 by omega), wr i (by omega), Int.toNat_natCast, if_pos c]
      exact fin _
    · simp only [spec_PartsOf.j2, Bool.false_eq_true, if_false, if_neg (show ¬ (b : Int) < (i : Int) by omega), wr i (by omega), if_neg c]
      exact fin _
  | d + 1, b, i, out, hi, hb, ho => by
    refine Ev.step (fun k => rfl) ?_
    simp only [spec_PartsOf.l0, if_pos (show (i : Int) ≤ (s.size : Int) by omega), if_pos (show (i : Int) < (s.size : Int) by omega), if_pos (show (0 : Int) ≤ (i : Int) by omega), gdF]
    by_cases c1 : bt s (i : Int) < 32
    · simp only [if_pos c1, Bool.false_eq_true, if_false]
      refine Ev.step (fun k => rfl) ?_
      simp only [spec_PartsOf.j1, if_true]
      exact Ev.now _
    · simp only [if_neg c1]
      refine Ev.step (fun k => rfl) ?_
      by_cases c2 : bt s (i : Int) > 126
      · simp only [spec_PartsOf.j1, decide_eq_true c2, if_true, if_pos c2, Bool.false_eq_true, if_false]
        exact Ev.now _
      · simp only [spec_PartsOf.j1, decide_eq_false c2, Bool.false_eq_true, if_false, if_neg c2, if_pos (show (i : Int) < (s.size : Int) by omega), if_pos (show (0 : Int) ≤ (i : Int) by omega), wsF]
        refine Ev.step (fun k => rfl) ?_
        by_cases c3 : bt s (i : Int) = 32
        · simp only [c3, bne_self_eq_false, if_true]
          by_cases c : b < i
          · simp only [spec_PartsOf.j2, Bool.false_eq_true, if_false, if_pos (show (b : Int) < (i : Int) by omega), if_pos (show (0 : Int) ≤ (b : Int) by omega), if_pos (show (b : Int) ≤ (i : Int) by omega), if_pos (show (i : Int) ≤ (s.size : Int) by omega), if_pos (show out.length < 8796093022208 by omega), wr i (by omega), Int.toNat_natCast, if_pos c]
            exact spec_Parts_l0 s hs d (i + 1) (i + 1) _ (by omega) (by omega) (by rw [List.length_append]; simp; omega)
          · simp only [spec_PartsOf.j2, Bool.false_eq_true, if_false, if_neg (show ¬ (b : Int) < (i : Int) by omega), wr i (by omega), if_neg c]
            exact spec_Parts_l0 s hs d (i + 1) (i + 1) _ (by omega) (by omega) (by omega)
        · have c4 : (bt s (i : Int) != 32) = true := by simp [c3]
          simp only [spec_PartsOf.j2, c4, if_true, if_neg c3, wr i (by omega)]
          exact spec_Parts_l0 s hs d b (i + 1) out (by omega) (by omega) (by omega)
theorem spec_Parts_ev (s : ByteArray) : Ev (fun k => spec_PartsOf.f k s) (partsT s) := by
  unfold spec_PartsOf.f partsT
  simp only [Option.bind_some]
  by_cases c : (s.size : Int) > 600
  · simp only [if_pos c]; exact Ev.now _
  · simp only [if_neg c]
    exact spec_Parts_l0 s (by omega) s.size 0 0 [] (by omega) (by omega) (by simp)
theorem impl_Parts_l1 (t : List ByteArray) (ht : t.length ≤ 1000000) : ∀ (d i : Nat) (out : List ByteArray), i + d = t.length → out.length ≤ i → Ev (fun k => impl_PartsOf.l1 k out t (t.length : Int) (i : Int)) (finW (out ++ (t.drop i).filter nonB))
  | 0, i, out, hi, ho => by
    refine Ev.step (fun k => rfl) ?_
    rw [List.drop_eq_nil_of_le (by omega), List.filter_nil, List.append_nil]
    simp only [impl_PartsOf.l1, if_neg (show ¬ (i : Int) < (t.length : Int) by omega)]
    unfold finW
    by_cases c : (out.length : Int) > 10
    · simp only [if_pos c]; exact Ev.now _
    · simp only [if_neg c]; exact Ev.now _
  | d + 1, i, out, hi, ho => by
    refine Ev.step (fun k => rfl) ?_
    have e1 : rdOf ByteArray.empty t (i : Int) = t[i] := by unfold rdOf; rw [Int.toNat_natCast, getD_get t i _ (by omega)]
    rw [List.drop_eq_getElem_cons (show i < t.length by omega)]
    simp only [impl_PartsOf.l1, if_pos (show (i : Int) < (t.length : Int) by omega), if_pos (show (0 : Int) ≤ (i : Int) by omega), e1, wr i (by omega), if_pos (show out.length < 8796093022208 by omega)]
    by_cases c : (t[i]).toList = ([] : List UInt8)
    · simp only [if_pos c]
      rw [List.filter_cons_of_neg (by simp [nonB, c])]
      exact impl_Parts_l1 t ht d (i + 1) out (by omega) (by omega)
    · simp only [if_neg c]
      rw [List.filter_cons_of_pos (by simp [nonB, c])]
      have := impl_Parts_l1 t ht d (i + 1) (out ++ [t[i]]) (by omega) (by rw [List.length_append]; simp; omega)
      rw [List.append_assoc] at this
      exact this
theorem impl_Parts_l0 (s : ByteArray) (hs : s.size ≤ 600) : ∀ (d i : Nat), i + d = s.size → Ev (fun k => impl_PartsOf.l0 k s [] (i : Int)) (if gdF s d i = true then finW ((Lib.splitB (⟨#[32]⟩ : ByteArray) 0 (Lib.countB s (⟨#[32]⟩ : ByteArray)) s).filter nonB) else ([], false))
  | 0, i, hi => by
    refine Ev.step (fun k => rfl) ?_
    have hl : (Lib.splitB (⟨#[32]⟩ : ByteArray) 0 (Lib.countB s (⟨#[32]⟩ : ByteArray)) s).length ≤ 1000000 := by
      have h1 := Lib.splitB_length_le (⟨#[32]⟩ : ByteArray) 0 (Lib.countB s (⟨#[32]⟩ : ByteArray)) s
      have h2 := Lib.countB_le (⟨#[32]⟩ : ByteArray) (by decide) s.size s (Nat.le_refl _)
      omega
    simp only [impl_PartsOf.l0, if_neg (show ¬ (i : Int) < (s.size : Int) by omega), gdF, if_true, strings_Split.f, if_pos (show s.size < 4294967281 ∧ 1 ≤ (⟨#[32]⟩ : ByteArray).size from ⟨by omega, by decide⟩), Option.bind_some]
    have := impl_Parts_l1 _ hl _ 0 [] (Nat.zero_add _) (by simp)
    rw [List.nil_append, List.drop_zero] at this
    exact this
  | d + 1, i, hi => by
    refine Ev.step (fun k => rfl) ?_
    have hb := bt_rng s i
    simp only [impl_PartsOf.l0, if_pos (show (i : Int) < (s.size : Int) by omega), if_pos (show (0 : Int) ≤ (i : Int) by omega), impl_in, Option.bind_some, wi (n := bt s (i : Int)) (by omega), wr i (by omega), gdF]
    by_cases c1 : bt s (i : Int) < 32
    · simp only [if_pos c1, inB_false.2 (show ¬ (32 ≤ bt s (i : Int) ∧ bt s (i : Int) ≤ 126) by omega), Bool.false_eq_true, if_false]
      exact Ev.now _
    · by_cases c2 : bt s (i : Int) > 126
      · simp only [if_neg c1, if_pos c2, inB_false.2 (show ¬ (32 ≤ bt s (i : Int) ∧ bt s (i : Int) ≤ 126) by omega), Bool.false_eq_true, if_false]
        exact Ev.now _
      · simp only [if_neg c1, if_neg c2, inB_true.2 (show 32 ≤ bt s (i : Int) ∧ bt s (i : Int) ≤ 126 by omega), if_true]
        exact impl_Parts_l0 s hs d (i + 1) (by omega)
theorem words_eq (s : ByteArray) : (Lib.splitB (⟨#[32]⟩ : ByteArray) 0 (Lib.countB s (⟨#[32]⟩ : ByteArray)) s).filter nonB = wsF s s.size 0 0 [] := by
  apply map_toL_inj
  rw [pieces_words, wsF_map s s.size 0 0 [] (by omega) (by omega)]
  simp
theorem impl_Parts_ev (s : ByteArray) : Ev (fun k => impl_PartsOf.f k s) (partsT s) := by
  unfold impl_PartsOf.f partsT
  by_cases c : (s.size : Int) > 600
  · simp only [if_pos c]; exact Ev.now _
  · simp only [if_neg c]
    rw [← words_eq]
    exact impl_Parts_l0 s (by omega) s.size 0 (by omega)
theorem parts_len (s : ByteArray) : (partsT s).1.length ≤ 10 := by
  unfold partsT finW
  (repeat' split) <;> simp <;> omega
theorem FnExactPartsOf : laws_FnExactPartsOf.Pure := by
  intro s hs
  refine Ev.rounds ?_
  unfold laws_FnExactPartsOf.f
  by_cases h : (s.size : Int) > 1048576
  · simp only [if_pos h]; exact Ev.now _
  · simp only [if_neg h]
    have hl := parts_len s
    have hi := impl_Parts_ev s
    refine Ev.bind (spec_Parts_ev s) (Ev.bind hi ?_)
    have eq := eqStringS_ev (partsT s).1 (by omega)
    refine Ev.bind eq ?_
    simp only [if_true, bne_self_eq_false]
    refine Ev.step (fun k => rfl) ?_
    simp only [laws_FnExactPartsOf.j0, Bool.false_eq_true, if_false]
    have hm := markStringS_ev (partsT s).1 (by omega) 1 (by omega)
    have hh := heldStringS_ev (partsT s).1.length (by omega) 1 (by omega)
    refine Ev.bind hm (Ev.bind hh ?_)
    simp only [if_neg (show ¬ (1 + ((partsT s).1.length : Int) * 1) < 0 by omega), if_true]
    refine Ev.bind hi (Ev.bind eq ?_)
    simp only [if_true, bne_self_eq_false]
    refine Ev.step (fun k => rfl) ?_
    simp only [laws_FnExactPartsOf.j1, Bool.false_eq_true, if_false]
    refine Ev.bind hh ?_
    simp only [if_neg (show ¬ (1 + ((partsT s).1.length : Int) * 1) < 0 by omega), if_true]
    exact Ev.now _

end Go.Proofs.YthajpckfodhhpaaDoor.Pure
