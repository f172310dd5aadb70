/- Parts of the proof of FnExactDoAct, one behind the other. No condition. -/
import Derived.Test.YtbanogkoaplcdaaVFnExactDoActM0
import Derived.Lib.Strings
import Derived.Lib.Bytes
import Derived.Laws.Strings
namespace Go.Proofs.Ytbanogkoaplcdaa.Plain
open Go.RowKit Go.Proofs.YtbanogkoaplcdaaW.PrintWords
theorem wr (i : Nat) (h : i < 4611686018427387904) : wrap64 ((i : Int) + 1) = ((i + 1 : Nat) : Int) := by unfold wrap64; omega
theorem wi {n : Int} (h : -9223372036854775808 ≤ n ∧ n ≤ 9223372036854775807) : wrap64 n = n := by unfold wrap64; omega
def inB (x lo hi : Int) : Bool := decide (lo ≤ x) && decide (x ≤ hi)
theorem inB_true {x lo hi : Int} : inB x lo hi = true ↔ lo ≤ x ∧ x ≤ hi := by simp [inB]
theorem inB_false {x lo hi : Int} : inB x lo hi = false ↔ ¬ (lo ≤ x ∧ x ≤ hi) := by rw [← inB_true]; cases inB x lo hi <;> simp
theorem in_ite (x lo hi : Int) : (if x ≥ lo then some (decide (x ≤ hi)) else some false) = some (inB x lo hi) := by
 unfold inB
 by_cases h : lo ≤ x <;> simp [h]
theorem drop_rd (l : List Int) (i : Nat) (h : i < l.length) : l.drop i = rd l i :: l.drop (i + 1) := by
 rw [List.drop_eq_getElem_cons h]
 simp [rd, List.getD_eq_getElem?_getD, List.getElem?_eq_getElem h]
theorem rd_get (l : List Int) (i : Nat) (h : i < l.length) : rd l (i : Int) = l[i] := by simp [rd, List.getD_eq_getElem?_getD, List.getElem?_eq_getElem h]
theorem set_mid {α : Type} (l : List α) (z x : α) (i d : Nat) (h : i < l.length) (hx : l[i] = x) : (l.take i ++ List.replicate (d + 1) z).set (i : Int).toNat x = l.take (i + 1) ++ List.replicate d z := by
 rw [Int.toNat_natCast, List.set_append_right _ _ (by rw [List.length_take]; omega), List.length_take, show i - min i l.length = 0 by omega, List.replicate_succ, List.set_cons_zero, List.take_succ_eq_append_getElem h, hx, List.append_assoc]
 rfl
theorem take_set (l : List Int) (z : Int) (i d : Nat) (h : i < l.length) : (l.take i ++ List.replicate (d + 1) z).set (i : Int).toNat (rd l (i : Int)) = l.take (i + 1) ++ List.replicate d z :=
 set_mid l z _ i d h (rd_get l i h).symm
def marks {α : Type} (v : Int → α) (c : Int) : Nat → Int → List α
  | 0, _ => []
  | n + 1, m => v m :: marks v c n (m + c)
theorem marks_len {α : Type} (v : Int → α) (c : Int) : ∀ (n : Nat) (m : Int), (marks v c n m).length = n
 | 0, _ => rfl
 | n + 1, m => by simp [marks, marks_len v c n]
theorem marks_get {α : Type} (v : Int → α) (c : Int) (z : α) : ∀ (n : Nat) (m : Int) (i : Nat), i < n → (marks v c n m).getD i z = v (m + i * c)
 | 0, _, _, h => by omega
 | n + 1, m, 0, _ => by simp [marks]
 | n + 1, m, i + 1, h => by
  have := marks_get v c z n (m + c) i (by omega)
  rw [show marks v c (n + 1) m = v m :: marks v c n (m + c) from rfl, List.getD_cons_succ, this]
  congr 1
  rw [show ((i + 1 : Nat) : Int) = (i : Int) + 1 by omega, Int.add_mul]
  omega
theorem marks_snoc {α : Type} (v : Int → α) (c : Int) : ∀ (n : Nat) (m : Int), marks v c (n + 1) m = marks v c n m ++ [v (m + n * c)]
 | 0, m => by simp [marks]
 | n + 1, m => by
  rw [show marks v c (n + 1 + 1) m = v m :: marks v c (n + 1) (m + c) from rfl, marks_snoc v c n (m + c), show marks v c (n + 1) m = v m :: marks v c n (m + c) from rfl, List.cons_append]
  congr 4
  rw [show ((n + 1 : Nat) : Int) = (n : Int) + 1 by omega, Int.add_mul]
  omega
theorem marks_set {α : Type} (v : Int → α) (c : Int) (l : List α) (m : Int) (i : Nat) (h : i < l.length) (x : α) (hx : x = v (m + i * c)) : (marks v c i m ++ l.drop i).set (i : Int).toNat x = marks v c (i + 1) m ++ l.drop (i + 1) := by
 rw [Int.toNat_natCast, List.set_append_right _ _ (by rw [marks_len]; omega), marks_len, Nat.sub_self, List.drop_eq_getElem_cons h, List.set_cons_zero, marks_snoc, List.append_assoc, hx]
 rfl
theorem marks_mid {α : Type} (v : Int → α) (c : Int) (l : List α) (m : Int) (i : Nat) (h : i ≤ l.length) : (marks v c i m ++ l.drop i).length = l.length := by
 rw [List.length_append, marks_len, List.length_drop]; omega
theorem getD_set {α : Type} (l : List α) (i : Nat) (v z : α) (h : i < l.length) : (l.set i v).getD i z = v := by
 rw [List.getD_eq_getElem?_getD, List.getElem?_set_self h]; rfl
theorem drop_getD {α : Type} (l : List α) (i : Nat) (z : α) (h : i < l.length) : l.drop i = l.getD i z :: l.drop (i + 1) := by
 rw [List.drop_eq_getElem_cons h, List.getD_eq_getElem?_getD, List.getElem?_eq_getElem h]; rfl
theorem getD_get {α : Type} (l : List α) (i : Nat) (z : α) (h : i < l.length) : l.getD i z = l[i] := by
 rw [List.getD_eq_getElem?_getD, List.getElem?_eq_getElem h]; rfl
end Go.Proofs.Ytbanogkoaplcdaa.Plain
