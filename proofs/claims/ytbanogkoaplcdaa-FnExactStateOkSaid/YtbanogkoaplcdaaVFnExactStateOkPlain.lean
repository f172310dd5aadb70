/- Plain facts on numbers, lists and bytes that the pure statements share. No program in sight. -/
import Derived.Test.YtbanogkoaplcdaaVFnExactStateOkWWords
import Derived.Lib.Strings
import Derived.Lib.Bytes
import Derived.Laws.Strings
namespace Go.Proofs.Ytbanogkoaplcdaa.Plain
open Go.RowKit Go.Proofs.YtbanogkoaplcdaaW.PrintWords
theorem wr (i : Nat) (h : i < 4611686018427387904) : wrap64 ((i : Int) + 1) = ((i + 1 : Nat) : Int) := by unfold wrap64; omega
theorem wi {n : Int} (h : -9223372036854775808 ≤ n ∧ n ≤ 9223372036854775807) : wrap64 n = n := by unfold wrap64; omega
def inB (x lo hi : Int) : Bool := decide (lo ≤ x) && decide (x ≤ hi)
theorem inB_true {x lo hi : Int} : inB x lo hi = true ↔ lo ≤ x ∧ x ≤ hi := by simp [inB]
theorem inB_false {x lo hi : Int} : inB x lo hi = false ↔ ¬ (lo ≤ x ∧ x ≤ hi) := by rw [← inB_true]; cases inB x lo hi <;> simp
theorem in_ite (x lo hi : Int) : (if x ≥ lo then some (decide (x ≤ hi)) else some false) = some (inB x lo hi) := by
  unfold inB
  by_cases h : lo ≤ x <;> simp [h]
theorem drop_rd (l : List Int) (i : Nat) (h : i < l.length) : l.drop i = rd l i :: l.drop (i + 1) := by
  rw [List.drop_eq_getElem_cons h]
  simp [rd, List.getD_eq_getElem?_getD, List.getElem?_eq_getElem h]
theorem rd_get (l : List Int) (i : Nat) (h : i < l.length) : rd l (i : Int) = l[i] := by simp [rd, List.getD_eq_getElem?_getD, List.getElem?_eq_getElem h]
theorem set_mid {α : Type} (l : List α) (z x : α) (i d : Nat) (h : i < l.length) (hx : l[i] = x) : (l.take i ++ List.replicate (d + 1) z).set (i : Int).toNat x = l.take (i + 1) ++ List.replicate d z := by
  rw [Int.toNat_natCast, List.set_append_right _ _ (by rw [List.length_take]; omega), List.length_take, show i - min i l.length = 0 by omega, List.replicate_succ, List.set_cons_zero, List.take_succ_eq_append_getElem h, hx, List.append_assoc]
  rfl
theorem take_set (l : List Int) (z : Int) (i d : Nat) (h : i < l.length) : (l.take i ++ List.replicate (d + 1) z).set (i : Int).toNat (rd l (i : Int)) = l.take (i + 1) ++ List.replicate d z :=
  set_mid l z _ i d h (rd_get l i h).symm
theorem drop_getD {α : Type} (l : List α) (i : Nat) (z : α) (h : i < l.length) : l.drop i = l.getD i z :: l.drop (i + 1) := by
  rw [List.drop_eq_getElem_cons h, List.getD_eq_getElem?_getD, List.getElem?_eq_getElem h]; rfl
theorem getD_get {α : Type} (l : List α) (i : Nat) (z : α) (h : i < l.length) : l.getD i z = l[i] := by
  rw [List.getD_eq_getElem?_getD, List.getElem?_eq_getElem h]; rfl
end Go.Proofs.Ytbanogkoaplcdaa.Plain
