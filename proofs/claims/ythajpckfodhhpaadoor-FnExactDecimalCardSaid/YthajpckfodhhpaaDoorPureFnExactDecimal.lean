/- The program's Decimal tells of every number what the reference's Decimal tells.
No condition beyond those of the given row. -/
import Derived.Test.YthajpckfodhhpaaDoorQNumx0
import Derived.Test.YthajpckfodhhpaaDoorQNumx1
import Derived.Test.YthajpckfodhhpaaDoorStFnExactDecimal
import Derived.Test.YthajpckfodhhpaaDoorPlain
namespace Go.Proofs.YthajpckfodhhpaaDoor.Pure
open Go.RowKit Go.Proofs.YthajpckfodhhpaaDoor.QNum Go.Proofs.YthajpckfodhhpaaDoor.Plain Go.Proofs.YthajpckfodhhpaaDoorW.PrintWords Go.Proofs.YthajpckfodhhpaaDoorW.PrintLast Go.Proofs.YthajpckfodhhpaaDoorW.PrintMore
set_option linter.unusedSimpArgs false
set_option linter.unusedVariables false

/-- A figure to the base sixteen. -/
def fig (v : Int) : Int := if v < 10 then 48 + v else 87 + v
/-- The figures of the bytes from i on. -/
def hexL (s : ByteArray) : Nat → Nat → List Int → List Int
  | 0, _, out => out
  | d + 1, i, out => hexL s d (i + 1) (out ++ [fig (bt s i / 16), fig (bt s i % 16)])
theorem bt_rng (s : ByteArray) (i : Int) : 0 ≤ bt s i ∧ bt s i < 256 := by
  unfold bt
  split
  · rename_i h
    have := UInt8.toNat_lt (s[i.toNat]'h)
    omega
  · omega
theorem td {n : Int} (m : Int) (h : 0 ≤ n) (hm : 0 < m) : Int.tdiv n m = n / m := Int.tdiv_eq_ediv_of_nonneg h
theorem tm {n : Int} (m : Int) (h : 0 ≤ n) : Int.tmod n m = n % m := Int.tmod_eq_emod_of_nonneg h

theorem toL (s : ByteArray) : s.toList = s.data.toList := ByteArray.toList_eq s
theorem ext_eq {a b : ByteArray} (h : a.toList = b.toList) : a = b := by
  rw [toL, toL] at h
  cases a; cases b; simp at h; rw [h]
theorem len_toL (s : ByteArray) : s.toList.length = s.size := by rw [toL, Array.length_toList]; rfl
theorem app_toL (a b : ByteArray) : (a ++ b).toList = a.toList ++ b.toList := by
  simp only [toL]; simp
theorem ext_toL (s : ByteArray) (a b : Nat) : (s.extract a b).toList = (s.toList.drop a).take (b - a) := by
  rw [toL, toL]; simp

theorem spec_figure (v : Int) (h : 0 ≤ v ∧ v < 10) : spec_l01Figure.f v = some (48 + v) := by
  unfold spec_l01Figure.f
  simp only [if_pos h.2, wi (n := 48 + v) (by omega)]
  congr 1; omega
/-- A text of these bytes. -/
def bl (l : List UInt8) : ByteArray := ⟨l.toArray⟩
theorem bl_toL (l : List UInt8) : (bl l).toList = l := by rw [toL]; rfl
theorem bl_size (l : List UInt8) : (bl l).size = l.length := by unfold bl; simp [ByteArray.size]
theorem bl_cons (v : Int) (h : 0 ≤ v ∧ v < 256) (l : List UInt8) : strOfNums [v] ++ bl l = bl (UInt8.ofNat v.toNat :: l) := by
  apply ext_eq
  rw [app_toL, Lib.strOfNums_toList, bl_toL, bl_toL]
  simp [Lib.bytesOf]
theorem decDigits_step (u : Nat) (h : ¬ u < 10) : Lib.decDigits u = Lib.decDigits (u / 10) ++ [UInt8.ofNat (48 + u % 10)] := by
  rw [Lib.decDigits, dif_neg h]
theorem spec_Dec_end (b : Bool) (l : List UInt8) (hl : l.length ≤ 1000) : Ev (fun k => spec_Decimal.l0 k 0 b (bl l)) (bl (if b = true then 45 :: l else l)) := by
  refine Ev.step (fun k => rfl) ?_
  simp only [spec_Decimal.l0, if_true]
  cases b
  · simp only [Bool.false_eq_true, if_false]; exact Ev.now _
  · simp only [if_true, if_pos (show 1 + (bl l).size ≤ 9223372036854775807 by rw [bl_size]; omega)]
    rw [show (⟨#[45]⟩ : ByteArray) ++ bl l = bl (45 :: l) from ext_eq (by rw [app_toL, bl_toL, bl_toL, toL]; rfl)]
    exact Ev.now _
theorem spec_Dec_l0 (b : Bool) : ∀ (j : Nat) (x : Int) (l : List UInt8), x.natAbs < 10 ^ j → x ≠ 0 → l.length + j ≤ 1000 → (-9223372036854775808 ≤ x ∧ x ≤ 9223372036854775807) →
    Ev (fun k => spec_Decimal.l0 k x b (bl l)) (bl (if b = true then 45 :: (Lib.decDigits x.natAbs ++ l) else Lib.decDigits x.natAbs ++ l))
  | 0, x, l, h, h0, hl, hr => by simp at h; omega
  | j + 1, x, l, h, h0, hl, hr => by
    refine Ev.step (fun k => rfl) ?_
    have e1 : (Int.tmod x 10).natAbs = x.natAbs % 10 := by rw [Int.natAbs_tmod]; rfl
    have e2 : (Int.tdiv x 10).natAbs = x.natAbs / 10 := by rw [Int.natAbs_tdiv]; rfl
    have hv : x.natAbs % 10 < 10 := Nat.mod_lt _ (by omega)
    have key : Ev (fun k => if (strOfNums ([48 + ((x.natAbs % 10 : Nat) : Int)] : List Int)).size + (bl l).size ≤ 9223372036854775807 then spec_Decimal.l0 k (wrap64 (Int.tdiv x 10)) b (strOfNums ([48 + ((x.natAbs % 10 : Nat) : Int)] : List Int) ++ bl l) else none) (bl (if b = true then 45 :: (Lib.decDigits x.natAbs ++ l) else Lib.decDigits x.natAbs ++ l)) := by
      have hs : (strOfNums ([48 + ((x.natAbs % 10 : Nat) : Int)] : List Int)).size = 1 := by rw [← len_toL, Lib.strOfNums_toList]; simp [Lib.bytesOf]
      simp only [if_pos (show (strOfNums ([48 + ((x.natAbs % 10 : Nat) : Int)] : List Int)).size + (bl l).size ≤ 9223372036854775807 by rw [hs, bl_size]; omega)]
      rw [bl_cons (48 + ((x.natAbs % 10 : Nat) : Int)) (by omega) l, wi (n := Int.tdiv x 10) (by omega)]
      have e3 : UInt8.ofNat (48 + ((x.natAbs % 10 : Nat) : Int)).toNat = UInt8.ofNat (48 + x.natAbs % 10) := by congr 1
      rw [e3]
      by_cases c : x.natAbs < 10
      · have hz : Int.tdiv x 10 = 0 := by omega
        rw [hz]
        have := spec_Dec_end b (UInt8.ofNat (48 + x.natAbs % 10) :: l) (by simp; omega)
        rw [Lib.decDigits, dif_pos c]
        rw [show x.natAbs % 10 = x.natAbs by omega] at this ⊢
        simpa using this
      · have ih := spec_Dec_l0 b j (Int.tdiv x 10) (UInt8.ofNat (48 + x.natAbs % 10) :: l) (by rw [e2]; rw [Nat.pow_succ] at h; omega) (by omega) (by simp; omega) (by omega)
        rw [e2] at ih
        rw [decDigits_step _ c]
        simpa using ih
    simp only [spec_Decimal.l0, if_neg h0]
    by_cases c : Int.tmod x 10 < 0
    · simp only [if_pos c, wi (n := ((x.natAbs % 10 : Nat) : Int)) (by omega), show -(Int.tmod x 10) = ((x.natAbs % 10 : Nat) : Int) by omega, spec_figure _ (show 0 ≤ ((x.natAbs % 10 : Nat) : Int) ∧ ((x.natAbs % 10 : Nat) : Int) < 10 by omega), Option.bind_some]
      exact key
    · simp only [if_neg c, show Int.tmod x 10 = ((x.natAbs % 10 : Nat) : Int) by omega, spec_figure _ (show 0 ≤ ((x.natAbs % 10 : Nat) : Int) ∧ ((x.natAbs % 10 : Nat) : Int) < 10 by omega), Option.bind_some]
      exact key
theorem spec_Decimal_ev (n : Int) (h : -9223372036854775808 ≤ n ∧ n ≤ 9223372036854775807) : Ev (fun k => spec_Decimal.f k n) (bl (Lib.itoa n)) := by
  unfold spec_Decimal.f
  by_cases c : n = 0
  · subst c
    simp only [if_true]
    rw [show bl (Lib.itoa 0) = (⟨#[48]⟩ : ByteArray) by unfold Lib.itoa; rw [if_neg (by omega)]; rw [Lib.decDigits, dif_pos (by decide)]; rfl]
    exact Ev.now _
  · simp only [if_neg c]
    have := spec_Dec_l0 (decide (n < 0)) 20 n [] (by omega) c (by simp) h
    rw [show bl [] = (⟨#[]⟩ : ByteArray) from rfl] at this
    rw [show bl (Lib.itoa n) = bl (if decide (n < 0) = true then 45 :: (Lib.decDigits n.natAbs ++ []) else Lib.decDigits n.natAbs ++ []) by
      unfold Lib.itoa
      by_cases d : n < 0
      · rw [if_pos d, decide_eq_true d, if_pos rfl, List.append_nil]
      · rw [if_neg d, decide_eq_false d, if_neg (by decide), List.append_nil, show n.toNat = n.natAbs by omega]]
    exact this

theorem FnExactDecimal : laws_FnExactDecimal.Pure := by
  intro n hn
  refine Ev.rounds ?_
  unfold laws_FnExactDecimal.f
  refine Ev.bind (spec_Decimal_ev n (of_wf hn)) ?_
  simp only [impl_Decimal.f, if_pos hn, Option.bind_some]
  rw [show (⟨(Lib.itoa n).toArray⟩ : ByteArray) = bl (Lib.itoa n) from rfl]
  simp only [if_true]
  exact Ev.now _

end Go.Proofs.YthajpckfodhhpaaDoor.Pure
