/- The program's KnowNew tells what the reference's KnowNew tells, in new memory each time.
No condition beyond those of the given row. -/
import Derived.Test.YtpojogficponhaaPFnExactKnowNewx0
import Derived.Test.YtpojogficponhaaPFnExactKnowNewx1
import Derived.Test.YtpojogficponhaaPlain
namespace Go.Proofs.Ytpojogficponhaa.Pure
open Go.RowKit Go.Proofs.Ytpojogficponhaa.PFnExactKnowNew Go.Proofs.Ytpojogficponhaa.Plain Go.Proofs.YtpojogficponhaaW.PrintWords Go.Proofs.YtpojogficponhaaW.PrintLast

theorem eqIntS_l0 (l : List Int) (hl : l.length ≤ 140737488351232) : ∀ d i, i + d = l.length → Ev (fun k => laws_eqIntS.l0 k l l (i : Int)) true
  | 0, i, hi => by
    refine Ev.step (fun k => rfl) ?_
    simp only [laws_eqIntS.l0, if_neg (show ¬ (i : Int) < (l.length : Int) by omega)]
    exact Ev.now _
  | d + 1, i, hi => by
    refine Ev.step (fun k => rfl) ?_
    simp only [laws_eqIntS.l0, if_pos (show (i : Int) < (l.length : Int) by omega), if_pos (show (0 : Int) ≤ (i : Int) by omega), if_true, wr i (by omega)]
    exact eqIntS_l0 l hl d (i + 1) (by omega)
theorem eqIntS_ev (l : List Int) (hl : l.length ≤ 140737488351232) : Ev (fun k => laws_eqIntS.f k l l) true := by
  unfold laws_eqIntS.f
  simp only [if_true]
  exact eqIntS_l0 l hl l.length 0 (by omega)

/-- n numbers from m on. -/
def iota : Nat → Int → List Int
  | 0, _ => []
  | n + 1, m => m :: iota n (m + 1)
theorem iota_len : ∀ n m, (iota n m).length = n
  | 0, _ => rfl
  | n + 1, m => by simp [iota, iota_len n]
theorem iota_snoc : ∀ n m, iota (n + 1) m = iota n m ++ [m + n]
  | 0, m => by simp [iota]
  | n + 1, m => by
    rw [show iota (n + 1 + 1) m = m :: iota (n + 1) (m + 1) from rfl, iota_snoc n (m + 1)]
    simp [iota]; omega
theorem iota_rd : ∀ n m (i : Nat), i < n → rd (iota n m) (i : Int) = m + i
  | 0, _, i, h => by omega
  | n + 1, m, 0, _ => by simp [iota, rd]
  | n + 1, m, i + 1, h => by
    have := iota_rd n (m + 1) i (by omega)
    simp [iota, rd] at this ⊢
    omega
theorem markIntS_l0 (l : List Int) (hl : l.length ≤ 140737488351232) (m : Int) (hm : 0 ≤ m ∧ m ≤ 1000000000000) : ∀ d i, i + d = l.length → Ev (fun k => laws_markIntS.l0 k (iota i m ++ l.drop i) (m + i) (i : Int)) (m + (l.length : Int), iota l.length m)
  | 0, i, hi => by
    refine Ev.step (fun k => rfl) ?_
    have e : (iota i m ++ l.drop i) = iota l.length m := by rw [List.drop_eq_nil_of_le (by omega), show i = l.length by omega, List.append_nil]
    simp only [laws_markIntS.l0, e, iota_len, if_neg (show ¬ (i : Int) < (l.length : Int) by omega)]
    rw [show (i : Int) = (l.length : Int) by omega]
    exact Ev.now _
  | d + 1, i, hi => by
    refine Ev.step (fun k => rfl) ?_
    have ih := markIntS_l0 l hl m hm d (i + 1) (by omega)
    have hlen : (iota i m ++ l.drop i).length = l.length := by rw [List.length_append, iota_len, List.length_drop]; omega
    have e : (iota i m ++ l.drop i).set (i : Int).toNat (m + i) = iota (i + 1) m ++ l.drop (i + 1) := by
      rw [Int.toNat_natCast, List.set_append_right _ _ (by rw [iota_len]; omega), iota_len, Nat.sub_self, drop_rd l i (by omega), List.set_cons_zero, iota_snoc, List.append_assoc]
      rfl
    simp only [laws_markIntS.l0, hlen, if_pos (show (i : Int) < (l.length : Int) by omega), if_pos (show (0 : Int) ≤ (i : Int) by omega), wr i (by omega), e, wi (n := m + i + 1) (by omega)]
    rw [show m + (i : Int) + 1 = m + ((i + 1 : Nat) : Int) by omega]
    exact ih
theorem markIntS_ev (l : List Int) (hl : l.length ≤ 140737488351232) (m : Int) (hm : 0 ≤ m ∧ m ≤ 1000000000000) : Ev (fun k => laws_markIntS.f k l m) (m + (l.length : Int), iota l.length m) := by
  have := markIntS_l0 l hl m hm l.length 0 (by omega)
  simpa [laws_markIntS.f, iota] using this

theorem heldIntS_l0 (n : Nat) (hn : n ≤ 140737488351232) (m : Int) (hm : 0 ≤ m ∧ m ≤ 1000000000000) : ∀ d i, i + d = n → Ev (fun k => laws_heldIntS.l0 k (iota n m) (m + i) (i : Int)) (m + (n : Int))
  | 0, i, hi => by
    refine Ev.step (fun k => rfl) ?_
    simp only [laws_heldIntS.l0, iota_len, if_neg (show ¬ (i : Int) < (n : Int) by omega)]
    rw [show (i : Int) = (n : Int) by omega]
    exact Ev.now _
  | d + 1, i, hi => by
    refine Ev.step (fun k => rfl) ?_
    have ih := heldIntS_l0 n hn m hm d (i + 1) (by omega)
    simp only [laws_heldIntS.l0, iota_len, if_pos (show (i : Int) < (n : Int) by omega), if_pos (show (0 : Int) ≤ (i : Int) by omega), wr i (by omega), if_pos (iota_rd n m i (by omega)), wi (n := m + i + 1) (by omega)]
    rw [show m + (i : Int) + 1 = m + ((i + 1 : Nat) : Int) by omega]
    exact ih
theorem heldIntS_ev (n : Nat) (hn : n ≤ 140737488351232) (m : Int) (hm : 0 ≤ m ∧ m ≤ 1000000000000) : Ev (fun k => laws_heldIntS.f k (iota n m) m) (m + (n : Int)) := by
  have := heldIntS_l0 n hn m hm n 0 (by omega)
  simpa [laws_heldIntS.f] using this

theorem FnExactKnowNew : laws_FnExactKnowNew.Pure := by
  refine Ev.rounds ?_
  unfold laws_FnExactKnowNew.f spec_KnowNew.f impl_KnowNew.f
  simp only [if_pos (show 3 ≤ 35184372088832 by omega), Option.bind_some]
  have e := eqIntS_ev (List.replicate 3 0) (by simp)
  have m := markIntS_ev (List.replicate 3 0) (by simp) 1 (by omega)
  have q := heldIntS_ev 3 (by omega) 1 (by omega)
  refine Ev.bind e ?_
  simp only [if_true]
  refine Ev.bind m (Ev.bind q ?_)
  exact Ev.bind e (Ev.bind q (Ev.now _))

end Go.Proofs.Ytpojogficponhaa.Pure
