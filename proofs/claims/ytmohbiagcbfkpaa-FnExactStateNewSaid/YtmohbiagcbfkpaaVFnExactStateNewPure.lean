/- The program's StateNew tells what the reference's StateNew tells, in new memory each time.
No condition beyond those of the given row. -/
import Derived.Test.YtmohbiagcbfkpaaVFnExactStateNewQActx0
import Derived.Test.YtmohbiagcbfkpaaVFnExactStateNewQActx1
import Derived.Test.YtmohbiagcbfkpaaVFnExactStateNewQActx2
import Derived.Test.YtmohbiagcbfkpaaVFnExactStateNewQActx3
import Derived.Test.YtmohbiagcbfkpaaVFnExactStateNewQActx18
import Derived.Test.YtmohbiagcbfkpaaVFnExactStateNewQActx19
import Derived.Test.YtmohbiagcbfkpaaVFnExactStateNewQActx20
import Derived.Test.YtmohbiagcbfkpaaVFnExactStateNewQActx21
import Derived.Test.YtmohbiagcbfkpaaVFnExactStateNewQActx22
import Derived.Test.YtmohbiagcbfkpaaVFnExactStateNewQActx23
import Derived.Test.YtmohbiagcbfkpaaVFnExactStateNewQActx24
import Derived.Test.YtmohbiagcbfkpaaVFnExactStateNewQActx25
import Derived.Test.YtmohbiagcbfkpaaVFnExactStateNewQActx26
import Derived.Test.YtmohbiagcbfkpaaVFnExactStateNewQActx27
import Derived.Test.YtmohbiagcbfkpaaVFnExactStateNewQActx28
import Derived.Test.YtmohbiagcbfkpaaVFnExactStateNewSt
import Derived.Test.YtmohbiagcbfkpaaVFnExactStateNewPlain
namespace Go.Proofs.Ytmohbiagcbfkpaa.Pure
open Go.RowKit Go.Proofs.Ytmohbiagcbfkpaa.QAct Go.Proofs.Ytmohbiagcbfkpaa.Plain Go.Proofs.YtmohbiagcbfkpaaW.PrintWords Go.Proofs.YtmohbiagcbfkpaaW.PrintLast Go.Proofs.YtmohbiagcbfkpaaW.PrintMore
set_option linter.unusedSimpArgs false
set_option linter.unusedVariables false
theorem eqIntS_l0 (l : List Int) (hl : l.length ≤ 140737488351232) : ∀ d i, i + d = l.length → Ev (fun k => laws_eqIntS.l0 k l l (i : Int)) true
  | 0, i, hi => by
    refine Ev.step (fun k => rfl) ?_
    simp only [laws_eqIntS.l0, if_neg (show ¬ (i : Int) < (l.length : Int) by omega)]
    exact Ev.now _
  | d + 1, i, hi => by
    refine Ev.step (fun k => rfl) ?_
    simp only [laws_eqIntS.l0, if_pos (show (i : Int) < (l.length : Int) by omega), if_pos (show (0 : Int) ≤ (i : Int) by omega), if_true, wr i (by omega)]
    exact eqIntS_l0 l hl d (i + 1) (by omega)
theorem eqIntS_ev (l : List Int) (hl : l.length ≤ 140737488351232) : Ev (fun k => laws_eqIntS.f k l l) true := by
  unfold laws_eqIntS.f
  simp only [if_true]
  exact eqIntS_l0 l hl l.length 0 (by omega)
theorem rdI_Tally (l : List S127) (i : Nat) : rd_T127 l (i : Int) = l.getD i z127 := by unfold rd_T127; rw [Int.toNat_natCast]
theorem eqDot_refl (r s : Int) : laws_eqDot.f r s r s = some true := by simp [laws_eqDot.f]
theorem eqTally_refl (x : S127) : laws_eqTally.f (x.f0) (x.f1) (x.f2) (x.f0) (x.f1) (x.f2) = some true := by simp [laws_eqTally.f]
theorem eqTallyS_l0 (l : List S127) (hl : l.length ≤ 140737488351232) : ∀ d i, i + d = l.length → Ev (fun k => laws_eqTallyS.l0 k l l (i : Int)) true
  | 0, i, hi => by
    refine Ev.step (fun k => rfl) ?_
    simp only [laws_eqTallyS.l0, if_neg (show ¬ (i : Int) < (l.length : Int) by omega)]
    exact Ev.now _
  | d + 1, i, hi => by
    refine Ev.step (fun k => rfl) ?_
    simp only [laws_eqTallyS.l0, if_pos (show (i : Int) < (l.length : Int) by omega), if_pos (show (0 : Int) ≤ (i : Int) by omega), eqTally_refl, Option.bind_some, if_true, wr i (by omega)]
    exact eqTallyS_l0 l hl d (i + 1) (by omega)
theorem eqTallyS_ev (l : List S127) (hl : l.length ≤ 140737488351232) : Ev (fun k => laws_eqTallyS.f k l l) true := by
  unfold laws_eqTallyS.f
  simp only [if_true]
  exact eqTallyS_l0 l hl l.length 0 (by omega)
theorem rdI_Live (l : List S134) (i : Nat) : rd_T134 l (i : Int) = l.getD i z134 := by unfold rd_T134; rw [Int.toNat_natCast]
theorem eqLive_refl (x : S134) : laws_eqLive.f (x.f0) (x.f1) (x.f2) (x.f3) (x.f4.f0) (x.f4.f1) (x.f0) (x.f1) (x.f2) (x.f3) (x.f4.f0) (x.f4.f1) = some true := by simp [laws_eqLive.f, eqDot_refl]
theorem eqLiveS_l0 (l : List S134) (hl : l.length ≤ 140737488351232) : ∀ d i, i + d = l.length → Ev (fun k => laws_eqLiveS.l0 k l l (i : Int)) true
  | 0, i, hi => by
    refine Ev.step (fun k => rfl) ?_
    simp only [laws_eqLiveS.l0, if_neg (show ¬ (i : Int) < (l.length : Int) by omega)]
    exact Ev.now _
  | d + 1, i, hi => by
    refine Ev.step (fun k => rfl) ?_
    simp only [laws_eqLiveS.l0, if_pos (show (i : Int) < (l.length : Int) by omega), if_pos (show (0 : Int) ≤ (i : Int) by omega), eqLive_refl, Option.bind_some, if_true, wr i (by omega)]
    exact eqLiveS_l0 l hl d (i + 1) (by omega)
theorem eqLiveS_ev (l : List S134) (hl : l.length ≤ 140737488351232) : Ev (fun k => laws_eqLiveS.f k l l) true := by
  unfold laws_eqLiveS.f
  simp only [if_true]
  exact eqLiveS_l0 l hl l.length 0 (by omega)
theorem rdI_Cell (l : List S167) (i : Nat) : rd_T167 l (i : Int) = l.getD i z167 := by unfold rd_T167; rw [Int.toNat_natCast]
theorem eqCell_refl (x : S167) : laws_eqCell.f (x.f0) (x.f1.f0) (x.f1.f1) (x.f2) (x.f3.f0) (x.f3.f1) (x.f4) (x.f5) (x.f0) (x.f1.f0) (x.f1.f1) (x.f2) (x.f3.f0) (x.f3.f1) (x.f4) (x.f5) = some true := by simp [laws_eqCell.f, eqDot_refl]
theorem eqCellS_l0 (l : List S167) (hl : l.length ≤ 140737488351232) : ∀ d i, i + d = l.length → Ev (fun k => laws_eqCellS.l0 k l l (i : Int)) true
  | 0, i, hi => by
    refine Ev.step (fun k => rfl) ?_
    simp only [laws_eqCellS.l0, if_neg (show ¬ (i : Int) < (l.length : Int) by omega)]
    exact Ev.now _
  | d + 1, i, hi => by
    refine Ev.step (fun k => rfl) ?_
    simp only [laws_eqCellS.l0, if_pos (show (i : Int) < (l.length : Int) by omega), if_pos (show (0 : Int) ≤ (i : Int) by omega), eqCell_refl, Option.bind_some, if_true, wr i (by omega)]
    exact eqCellS_l0 l hl d (i + 1) (by omega)
theorem eqCellS_ev (l : List S167) (hl : l.length ≤ 140737488351232) : Ev (fun k => laws_eqCellS.f k l l) true := by
  unfold laws_eqCellS.f
  simp only [if_true]
  exact eqCellS_l0 l hl l.length 0 (by omega)
theorem eqState_ev (a : List Int) (b : List S127) (c : List S134) (d : List S167) (ha : a.length ≤ 140737488351232) (hb : b.length ≤ 140737488351232) (hc : c.length ≤ 140737488351232) (hd : d.length ≤ 140737488351232) :
    Ev (fun k => laws_eqState.f k a b c d a b c d) true := by
  unfold laws_eqState.f
  refine Ev.bind (eqIntS_ev a ha) ?_
  simp only [if_true]
  refine Ev.bind (eqTallyS_ev b hb) ?_
  simp only [if_true]
  refine Ev.bind (eqLiveS_ev c hc) ?_
  simp only [if_true]
  exact Ev.bind (eqCellS_ev d hd) (Ev.now _)
def iota : Nat → Int → List Int
  | 0, _ => []
  | n + 1, m => m :: iota n (m + 1)
theorem iota_len : ∀ n m, (iota n m).length = n
  | 0, _ => rfl
  | n + 1, m => by simp [iota, iota_len n]
theorem iota_snoc : ∀ n m, iota (n + 1) m = iota n m ++ [m + n]
  | 0, m => by simp [iota]
  | n + 1, m => by
    rw [show iota (n + 1 + 1) m = m :: iota (n + 1) (m + 1) from rfl, iota_snoc n (m + 1)]
    simp [iota]; omega
theorem iota_rd : ∀ n m (i : Nat), i < n → rd (iota n m) (i : Int) = m + i
  | 0, _, i, h => by omega
  | n + 1, m, 0, _ => by simp [iota, rd]
  | n + 1, m, i + 1, h => by
    have := iota_rd n (m + 1) i (by omega)
    simp [iota, rd] at this ⊢
    omega
theorem markIntS_l0 (l : List Int) (hl : l.length ≤ 140737488351232) (m : Int) (hm : 0 ≤ m ∧ m ≤ 1000000000000) : ∀ d i, i + d = l.length → Ev (fun k => laws_markIntS.l0 k (iota i m ++ l.drop i) (m + i) (i : Int)) (m + (l.length : Int), iota l.length m)
  | 0, i, hi => by
    refine Ev.step (fun k => rfl) ?_
    have e : (iota i m ++ l.drop i) = iota l.length m := by rw [List.drop_eq_nil_of_le (by omega), show i = l.length by omega, List.append_nil]
    simp only [laws_markIntS.l0, e, iota_len, if_neg (show ¬ (i : Int) < (l.length : Int) by omega)]
    rw [show (i : Int) = (l.length : Int) by omega]
    exact Ev.now _
  | d + 1, i, hi => by
    refine Ev.step (fun k => rfl) ?_
    have ih := markIntS_l0 l hl m hm d (i + 1) (by omega)
    have hlen : (iota i m ++ l.drop i).length = l.length := by rw [List.length_append, iota_len, List.length_drop]; omega
    have e : (iota i m ++ l.drop i).set (i : Int).toNat (m + i) = iota (i + 1) m ++ l.drop (i + 1) := by
      rw [Int.toNat_natCast, List.set_append_right _ _ (by rw [iota_len]; omega), iota_len, Nat.sub_self, drop_rd l i (by omega), List.set_cons_zero, iota_snoc, List.append_assoc]
      rfl
    simp only [laws_markIntS.l0, hlen, if_pos (show (i : Int) < (l.length : Int) by omega), if_pos (show (0 : Int) ≤ (i : Int) by omega), wr i (by omega), e, wi (n := m + i + 1) (by omega)]
    rw [show m + (i : Int) + 1 = m + ((i + 1 : Nat) : Int) by omega]
    exact ih
theorem markIntS_ev (l : List Int) (hl : l.length ≤ 140737488351232) (m : Int) (hm : 0 ≤ m ∧ m ≤ 1000000000000) : Ev (fun k => laws_markIntS.f k l m) (m + (l.length : Int), iota l.length m) := by
  have := markIntS_l0 l hl m hm l.length 0 (by omega)
  simpa [laws_markIntS.f, iota] using this
def p10 (d : Nat) : Int := 10 ^ d
theorem p10_succ (d : Nat) : p10 (d + 1) = 10 * p10 d := by unfold p10; rw [Int.pow_succ]; omega
theorem p10_zero : p10 0 = 1 := rfl
def mtF : Nat → Int → ByteArray → ByteArray
  | 0, _, out => (⟨#[109]⟩ : ByteArray) ++ out
  | d + 1, x, out => if x > 0 then mtF d (x / 10) (strOfNums [(48 + x % 10) % 256] ++ out) else (⟨#[109]⟩ : ByteArray) ++ out
def mt (x : Int) : ByteArray := if x ≤ 0 then (⟨#[109, 48]⟩ : ByteArray) else mtF 20 x (⟨#[]⟩ : ByteArray)
theorem markText_l0 : ∀ (d : Nat) (x : Int) (out : ByteArray), 0 ≤ x → x ≤ 9223372036854775807 → x < p10 d → out.size + d ≤ 1000 → Ev (fun k => laws_markText.l0 k x out) (mtF d x out)
  | 0, x, out, h0, hm, hx, ho => by
    rw [p10_zero] at hx
    refine Ev.step (fun k => rfl) ?_
    simp only [laws_markText.l0, if_neg (show ¬ x > 0 by omega), if_pos (show 1 + out.size ≤ 9223372036854775807 by omega), mtF]
    exact Ev.now _
  | d + 1, x, out, h0, hm, hx, ho => by
    rw [p10_succ] at hx
    refine Ev.step (fun k => rfl) ?_
    by_cases c : x > 0
    · have e1 : wrap64 (Int.tdiv x 10) = x / 10 := by rw [Int.tdiv_eq_ediv_of_nonneg h0]; exact wi (by omega)
      have e2 : (wrap64 (48 + Int.tmod x 10)) % 256 = (48 + x % 10) % 256 := by rw [Int.tmod_eq_emod_of_nonneg h0, wi (by omega)]
      have hz : (strOfNums [(48 + x % 10) % 256]).size = 1 := by rw [strOfNums_size]; rfl
      simp only [laws_markText.l0, if_pos c, Option.bind_some, e1, e2, hz, if_pos (show 1 + out.size ≤ 9223372036854775807 by omega), mtF]
      exact markText_l0 d (x / 10) _ (by omega) (by omega) (by omega) (by rw [ByteArray.size_append, hz]; omega)
    · simp only [laws_markText.l0, if_neg c, if_pos (show 1 + out.size ≤ 9223372036854775807 by omega), mtF]
      exact Ev.now _
theorem mt_ev (x : Int) (h0 : 0 ≤ x) (hm : x ≤ 9000000000000000) : Ev (fun k => laws_markText.f k x) (mt x) := by
  unfold laws_markText.f mt
  by_cases c : x ≤ 0
  · simp only [if_pos c]; exact Ev.now _
  · simp only [if_neg c]
    exact markText_l0 20 x _ h0 (by omega) (by unfold p10; omega) (by decide)
def vTally (m : Int) : S127 := ⟨mt m, m + 1, m + 2⟩
theorem markTallyS_l0 (l : List S127) (hl : l.length ≤ 1000000000) (m : Int) (hm : 0 ≤ m ∧ m ≤ 1000000000000) : ∀ d i, i + d = l.length → Ev (fun k => laws_markTallyS.l0 k (marks vTally 3 i m ++ l.drop i) (m + i * 3) (i : Int)) (m + (l.length : Int) * 3, marks vTally 3 l.length m)
  | 0, i, hi => by
    refine Ev.step (fun k => rfl) ?_
    simp only [laws_markTallyS.l0, marks_mid vTally 3 l m i (by omega), if_neg (show ¬ (i : Int) < (l.length : Int) by omega)]
    rw [List.drop_eq_nil_of_le (show l.length ≤ i by omega), List.append_nil, show i = l.length by omega]
    exact Ev.now _
  | d + 1, i, hi => by
    refine Ev.step (fun k => rfl) ?_
    have ih := markTallyS_l0 l hl m hm d (i + 1) (by omega)
    have hlen := marks_mid vTally 3 l m i (by omega)
    have rdset : ∀ x : S127, rd_T127 ((marks vTally 3 i m ++ l.drop i).set (i : Int).toNat x) (i : Int) = x := fun x => by
      rw [rdI_Tally, Int.toNat_natCast, getD_set _ _ _ _ (Nat.lt_of_lt_of_eq (show i < l.length by omega) hlen.symm)]
    have hset := marks_set vTally 3 l m i (by omega) _ rfl
    rw [show vTally (m + (i : Int) * 3) = (⟨mt (m + (i : Int) * 3), m + (i : Int) * 3 + 1, m + (i : Int) * 3 + 2⟩ : S127) from rfl] at hset
    simp only [laws_markTallyS.l0, hlen, if_pos (show (i : Int) < (l.length : Int) by omega), if_pos (show (0 : Int) ≤ (i : Int) by omega), wr i (by omega), Option.bind_some, List.set_set, rdset, wi (n := m + (i : Int) * 3 + 1) (by omega), wi (n := m + (i : Int) * 3 + 1 + 1) (by omega), wi (n := m + (i : Int) * 3 + 1 + 1 + 1) (by omega)]
    refine Ev.bind (mt_ev (m + (i : Int) * 3) (by omega) (by omega)) ?_
    (try simp only [Option.bind_some, List.set_set, rdset])
    simp only [show m + (i : Int) * 3 + 1 + 1 = m + (i : Int) * 3 + 2 by omega, show m + (i : Int) * 3 + 2 + 1 = m + (i : Int) * 3 + 3 by omega]
    rw [hset, show m + (i : Int) * 3 + 3 = m + ((i + 1 : Nat) : Int) * 3 by omega]
    exact ih
theorem markTallyS_ev (l : List S127) (hl : l.length ≤ 1000000000) (m : Int) (hm : 0 ≤ m ∧ m ≤ 1000000000000) : Ev (fun k => laws_markTallyS.f k l m) (m + (l.length : Int) * 3, marks vTally 3 l.length m) := by
  have := markTallyS_l0 l hl m hm l.length 0 (by omega)
  simpa [laws_markTallyS.f, marks] using this
def vLive (m : Int) : S134 := ⟨(Int.tmod m 3 == 0), mt (m + 1), mt (m + 2), m + 3, ⟨m + 4, m + 5⟩⟩
theorem markLiveS_l0 (l : List S134) (hl : l.length ≤ 1000000000) (m : Int) (hm : 0 ≤ m ∧ m ≤ 1000000000000) : ∀ d i, i + d = l.length → Ev (fun k => laws_markLiveS.l0 k (marks vLive 6 i m ++ l.drop i) (m + i * 6) (i : Int)) (m + (l.length : Int) * 6, marks vLive 6 l.length m)
  | 0, i, hi => by
    refine Ev.step (fun k => rfl) ?_
    simp only [laws_markLiveS.l0, marks_mid vLive 6 l m i (by omega), if_neg (show ¬ (i : Int) < (l.length : Int) by omega)]
    rw [List.drop_eq_nil_of_le (show l.length ≤ i by omega), List.append_nil, show i = l.length by omega]
    exact Ev.now _
  | d + 1, i, hi => by
    refine Ev.step (fun k => rfl) ?_
    have ih := markLiveS_l0 l hl m hm d (i + 1) (by omega)
    have hlen := marks_mid vLive 6 l m i (by omega)
    have rdset : ∀ x : S134, rd_T134 ((marks vLive 6 i m ++ l.drop i).set (i : Int).toNat x) (i : Int) = x := fun x => by
      rw [rdI_Live, Int.toNat_natCast, getD_set _ _ _ _ (Nat.lt_of_lt_of_eq (show i < l.length by omega) hlen.symm)]
    have hset := marks_set vLive 6 l m i (by omega) _ rfl
    rw [show vLive (m + (i : Int) * 6) = (⟨(Int.tmod (m + (i : Int) * 6) 3 == 0), mt (m + (i : Int) * 6 + 1), mt (m + (i : Int) * 6 + 2), m + (i : Int) * 6 + 3, ⟨m + (i : Int) * 6 + 4, m + (i : Int) * 6 + 5⟩⟩ : S134) from rfl] at hset
    simp only [laws_markLiveS.l0, hlen, if_pos (show (i : Int) < (l.length : Int) by omega), if_pos (show (0 : Int) ≤ (i : Int) by omega), wr i (by omega), Option.bind_some, List.set_set, rdset, wi (n := m + (i : Int) * 6 + 1) (by omega), wi (n := m + (i : Int) * 6 + 1 + 1) (by omega), wi (n := m + (i : Int) * 6 + 1 + 1 + 1) (by omega), wi (n := m + (i : Int) * 6 + 1 + 1 + 1 + 1) (by omega), wi (n := m + (i : Int) * 6 + 1 + 1 + 1 + 1 + 1) (by omega), wi (n := m + (i : Int) * 6 + 1 + 1 + 1 + 1 + 1 + 1) (by omega)]
    refine Ev.bind (mt_ev (m + (i : Int) * 6 + 1) (by omega) (by omega)) ?_
    (try simp only [Option.bind_some, List.set_set, rdset])
    refine Ev.bind (mt_ev (m + (i : Int) * 6 + 1 + 1) (by omega) (by omega)) ?_
    (try simp only [Option.bind_some, List.set_set, rdset])
    simp only [show m + (i : Int) * 6 + 1 + 1 = m + (i : Int) * 6 + 2 by omega, show m + (i : Int) * 6 + 2 + 1 = m + (i : Int) * 6 + 3 by omega, show m + (i : Int) * 6 + 3 + 1 = m + (i : Int) * 6 + 4 by omega, show m + (i : Int) * 6 + 4 + 1 = m + (i : Int) * 6 + 5 by omega, show m + (i : Int) * 6 + 5 + 1 = m + (i : Int) * 6 + 6 by omega]
    rw [hset, show m + (i : Int) * 6 + 6 = m + ((i + 1 : Nat) : Int) * 6 by omega]
    exact ih
theorem markLiveS_ev (l : List S134) (hl : l.length ≤ 1000000000) (m : Int) (hm : 0 ≤ m ∧ m ≤ 1000000000000) : Ev (fun k => laws_markLiveS.f k l m) (m + (l.length : Int) * 6, marks vLive 6 l.length m) := by
  have := markLiveS_l0 l hl m hm l.length 0 (by omega)
  simpa [laws_markLiveS.f, marks] using this
def vCell (m : Int) : S167 := ⟨mt m, ⟨m + 1, m + 2⟩, m + 3, ⟨m + 4, m + 5⟩, m + 6, (Int.tmod (m + 7) 3 == 0)⟩
theorem markCellS_l0 (l : List S167) (hl : l.length ≤ 1000000000) (m : Int) (hm : 0 ≤ m ∧ m ≤ 1000000000000) : ∀ d i, i + d = l.length → Ev (fun k => laws_markCellS.l0 k (marks vCell 8 i m ++ l.drop i) (m + i * 8) (i : Int)) (m + (l.length : Int) * 8, marks vCell 8 l.length m)
  | 0, i, hi => by
    refine Ev.step (fun k => rfl) ?_
    simp only [laws_markCellS.l0, marks_mid vCell 8 l m i (by omega), if_neg (show ¬ (i : Int) < (l.length : Int) by omega)]
    rw [List.drop_eq_nil_of_le (show l.length ≤ i by omega), List.append_nil, show i = l.length by omega]
    exact Ev.now _
  | d + 1, i, hi => by
    refine Ev.step (fun k => rfl) ?_
    have ih := markCellS_l0 l hl m hm d (i + 1) (by omega)
    have hlen := marks_mid vCell 8 l m i (by omega)
    have rdset : ∀ x : S167, rd_T167 ((marks vCell 8 i m ++ l.drop i).set (i : Int).toNat x) (i : Int) = x := fun x => by
      rw [rdI_Cell, Int.toNat_natCast, getD_set _ _ _ _ (Nat.lt_of_lt_of_eq (show i < l.length by omega) hlen.symm)]
    have hset := marks_set vCell 8 l m i (by omega) _ rfl
    rw [show vCell (m + (i : Int) * 8) = (⟨mt (m + (i : Int) * 8), ⟨m + (i : Int) * 8 + 1, m + (i : Int) * 8 + 2⟩, m + (i : Int) * 8 + 3, ⟨m + (i : Int) * 8 + 4, m + (i : Int) * 8 + 5⟩, m + (i : Int) * 8 + 6, (Int.tmod (m + (i : Int) * 8 + 7) 3 == 0)⟩ : S167) from rfl] at hset
    simp only [laws_markCellS.l0, hlen, if_pos (show (i : Int) < (l.length : Int) by omega), if_pos (show (0 : Int) ≤ (i : Int) by omega), wr i (by omega), Option.bind_some, List.set_set, rdset, wi (n := m + (i : Int) * 8 + 1) (by omega), wi (n := m + (i : Int) * 8 + 1 + 1) (by omega), wi (n := m + (i : Int) * 8 + 1 + 1 + 1) (by omega), wi (n := m + (i : Int) * 8 + 1 + 1 + 1 + 1) (by omega), wi (n := m + (i : Int) * 8 + 1 + 1 + 1 + 1 + 1) (by omega), wi (n := m + (i : Int) * 8 + 1 + 1 + 1 + 1 + 1 + 1) (by omega), wi (n := m + (i : Int) * 8 + 1 + 1 + 1 + 1 + 1 + 1 + 1) (by omega), wi (n := m + (i : Int) * 8 + 1 + 1 + 1 + 1 + 1 + 1 + 1 + 1) (by omega)]
    refine Ev.bind (mt_ev (m + (i : Int) * 8) (by omega) (by omega)) ?_
    (try simp only [Option.bind_some, List.set_set, rdset])
    simp only [show m + (i : Int) * 8 + 1 + 1 = m + (i : Int) * 8 + 2 by omega, show m + (i : Int) * 8 + 2 + 1 = m + (i : Int) * 8 + 3 by omega, show m + (i : Int) * 8 + 3 + 1 = m + (i : Int) * 8 + 4 by omega, show m + (i : Int) * 8 + 4 + 1 = m + (i : Int) * 8 + 5 by omega, show m + (i : Int) * 8 + 5 + 1 = m + (i : Int) * 8 + 6 by omega, show m + (i : Int) * 8 + 6 + 1 = m + (i : Int) * 8 + 7 by omega, show m + (i : Int) * 8 + 7 + 1 = m + (i : Int) * 8 + 8 by omega]
    rw [hset, show m + (i : Int) * 8 + 8 = m + ((i + 1 : Nat) : Int) * 8 by omega]
    exact ih
theorem markCellS_ev (l : List S167) (hl : l.length ≤ 1000000000) (m : Int) (hm : 0 ≤ m ∧ m ≤ 1000000000000) : Ev (fun k => laws_markCellS.f k l m) (m + (l.length : Int) * 8, marks vCell 8 l.length m) := by
  have := markCellS_l0 l hl m hm l.length 0 (by omega)
  simpa [laws_markCellS.f, marks] using this
theorem markState_ev (a : List Int) (b : List S127) (c : List S134) (d : List S167) (ha : a.length ≤ 10000000) (hb : b.length ≤ 10000000) (hc : c.length ≤ 10000000) (hd : d.length ≤ 10000000) (m : Int) (hm : 0 ≤ m ∧ m ≤ 1000000000) :
    Ev (fun k => laws_markState.f k a b c d m) (m + (a.length : Int) + (b.length : Int) * 3 + (c.length : Int) * 6 + (d.length : Int) * 8, iota a.length m, marks vTally 3 b.length (m + (a.length : Int)), marks vLive 6 c.length (m + (a.length : Int) + (b.length : Int) * 3), marks vCell 8 d.length (m + (a.length : Int) + (b.length : Int) * 3 + (c.length : Int) * 6)) := by
  unfold laws_markState.f
  exact Ev.bind (markIntS_ev a (by omega) m (by omega)) (Ev.bind (markTallyS_ev b (by omega) _ (by simp only; omega)) (Ev.bind (markLiveS_ev c (by omega) _ (by simp only; omega)) (Ev.bind (markCellS_ev d (by omega) _ (by simp only; omega)) (Ev.now _))))
theorem heldIntS_l0 (n : Nat) (hn : n ≤ 140737488351232) (m : Int) (hm : 0 ≤ m ∧ m ≤ 1000000000000) : ∀ d i, i + d = n → Ev (fun k => laws_heldIntS.l0 k (iota n m) (m + i) (i : Int)) (m + (n : Int))
  | 0, i, hi => by
    refine Ev.step (fun k => rfl) ?_
    simp only [laws_heldIntS.l0, iota_len, if_neg (show ¬ (i : Int) < (n : Int) by omega)]
    rw [show (i : Int) = (n : Int) by omega]
    exact Ev.now _
  | d + 1, i, hi => by
    refine Ev.step (fun k => rfl) ?_
    have ih := heldIntS_l0 n hn m hm d (i + 1) (by omega)
    simp only [laws_heldIntS.l0, iota_len, if_pos (show (i : Int) < (n : Int) by omega), if_pos (show (0 : Int) ≤ (i : Int) by omega), wr i (by omega), if_pos (iota_rd n m i (by omega)), wi (n := m + i + 1) (by omega)]
    rw [show m + (i : Int) + 1 = m + ((i + 1 : Nat) : Int) by omega]
    exact ih
theorem heldIntS_ev (n : Nat) (hn : n ≤ 140737488351232) (m : Int) (hm : 0 ≤ m ∧ m ≤ 1000000000000) : Ev (fun k => laws_heldIntS.f k (iota n m) m) (m + (n : Int)) := by
  have := heldIntS_l0 n hn m hm n 0 (by omega)
  simpa [laws_heldIntS.f] using this
theorem heldTallyS_l0 (n : Nat) (hn : n ≤ 1000000000) (m : Int) (hm : 0 ≤ m ∧ m ≤ 1000000000000) : ∀ d i, i + d = n → Ev (fun k => laws_heldTallyS.l0 k (marks vTally 3 n m) (m + i * 3) (i : Int)) (m + (n : Int) * 3)
  | 0, i, hi => by
    refine Ev.step (fun k => rfl) ?_
    simp only [laws_heldTallyS.l0, marks_len, if_neg (show ¬ (i : Int) < (n : Int) by omega)]
    rw [show i = n by omega]
    exact Ev.now _
  | d + 1, i, hi => by
    refine Ev.step (fun k => rfl) ?_
    have ih := heldTallyS_l0 n hn m hm d (i + 1) (by omega)
    have g : rd_T127 (marks vTally 3 n m) (i : Int) = (⟨mt (m + (i : Int) * 3), m + (i : Int) * 3 + 1, m + (i : Int) * 3 + 2⟩ : S127) := by
      rw [rdI_Tally, marks_get vTally 3 _ n m i (by omega)]; rfl
    simp only [laws_heldTallyS.l0, marks_len, if_pos (show (i : Int) < (n : Int) by omega), if_pos (show (0 : Int) ≤ (i : Int) by omega), wr i (by omega), g, wi (n := m + (i : Int) * 3 + 1) (by omega), wi (n := m + (i : Int) * 3 + 1 + 1) (by omega), wi (n := m + (i : Int) * 3 + 1 + 1 + 1) (by omega)]
    refine Ev.bind (mt_ev (m + (i : Int) * 3) (by omega) (by omega)) ?_
    simp only [if_true]
    simp only [show m + (i : Int) * 3 + 1 + 1 = m + (i : Int) * 3 + 2 by omega, show m + (i : Int) * 3 + 2 + 1 = m + (i : Int) * 3 + 3 by omega, if_true, bne_self_eq_false, Bool.false_eq_true, if_false]
    rw [show m + (i : Int) * 3 + 3 = m + ((i + 1 : Nat) : Int) * 3 by omega]
    exact ih
theorem heldTallyS_ev (n : Nat) (hn : n ≤ 1000000000) (m : Int) (hm : 0 ≤ m ∧ m ≤ 1000000000000) : Ev (fun k => laws_heldTallyS.f k (marks vTally 3 n m) m) (m + (n : Int) * 3) := by
  have := heldTallyS_l0 n hn m hm n 0 (by omega)
  simpa [laws_heldTallyS.f] using this
theorem heldLiveS_l0 (n : Nat) (hn : n ≤ 1000000000) (m : Int) (hm : 0 ≤ m ∧ m ≤ 1000000000000) : ∀ d i, i + d = n → Ev (fun k => laws_heldLiveS.l0 k (marks vLive 6 n m) (m + i * 6) (i : Int)) (m + (n : Int) * 6)
  | 0, i, hi => by
    refine Ev.step (fun k => rfl) ?_
    simp only [laws_heldLiveS.l0, marks_len, if_neg (show ¬ (i : Int) < (n : Int) by omega)]
    rw [show i = n by omega]
    exact Ev.now _
  | d + 1, i, hi => by
    refine Ev.step (fun k => rfl) ?_
    have ih := heldLiveS_l0 n hn m hm d (i + 1) (by omega)
    have g : rd_T134 (marks vLive 6 n m) (i : Int) = (⟨(Int.tmod (m + (i : Int) * 6) 3 == 0), mt (m + (i : Int) * 6 + 1), mt (m + (i : Int) * 6 + 2), m + (i : Int) * 6 + 3, ⟨m + (i : Int) * 6 + 4, m + (i : Int) * 6 + 5⟩⟩ : S134) := by
      rw [rdI_Live, marks_get vLive 6 _ n m i (by omega)]; rfl
    simp only [laws_heldLiveS.l0, marks_len, if_pos (show (i : Int) < (n : Int) by omega), if_pos (show (0 : Int) ≤ (i : Int) by omega), wr i (by omega), g, wi (n := m + (i : Int) * 6 + 1) (by omega), wi (n := m + (i : Int) * 6 + 1 + 1) (by omega), wi (n := m + (i : Int) * 6 + 1 + 1 + 1) (by omega), wi (n := m + (i : Int) * 6 + 1 + 1 + 1 + 1) (by omega), wi (n := m + (i : Int) * 6 + 1 + 1 + 1 + 1 + 1) (by omega), wi (n := m + (i : Int) * 6 + 1 + 1 + 1 + 1 + 1 + 1) (by omega)]
    simp only [bne_self_eq_false, Bool.false_eq_true, if_false]
    refine Ev.bind (mt_ev (m + (i : Int) * 6 + 1) (by omega) (by omega)) ?_
    simp only [if_true]
    refine Ev.bind (mt_ev (m + (i : Int) * 6 + 1 + 1) (by omega) (by omega)) ?_
    rw [show m + (i : Int) * 6 + 1 + 1 = m + (i : Int) * 6 + 2 by omega]
    simp only [if_true]
    simp only [show m + (i : Int) * 6 + 1 + 1 = m + (i : Int) * 6 + 2 by omega, show m + (i : Int) * 6 + 2 + 1 = m + (i : Int) * 6 + 3 by omega, show m + (i : Int) * 6 + 3 + 1 = m + (i : Int) * 6 + 4 by omega, show m + (i : Int) * 6 + 4 + 1 = m + (i : Int) * 6 + 5 by omega, show m + (i : Int) * 6 + 5 + 1 = m + (i : Int) * 6 + 6 by omega, if_true, bne_self_eq_false, Bool.false_eq_true, if_false]
    rw [show m + (i : Int) * 6 + 6 = m + ((i + 1 : Nat) : Int) * 6 by omega]
    exact ih
theorem heldLiveS_ev (n : Nat) (hn : n ≤ 1000000000) (m : Int) (hm : 0 ≤ m ∧ m ≤ 1000000000000) : Ev (fun k => laws_heldLiveS.f k (marks vLive 6 n m) m) (m + (n : Int) * 6) := by
  have := heldLiveS_l0 n hn m hm n 0 (by omega)
  simpa [laws_heldLiveS.f] using this
theorem heldCellS_l0 (n : Nat) (hn : n ≤ 1000000000) (m : Int) (hm : 0 ≤ m ∧ m ≤ 1000000000000) : ∀ d i, i + d = n → Ev (fun k => laws_heldCellS.l0 k (marks vCell 8 n m) (m + i * 8) (i : Int)) (m + (n : Int) * 8)
  | 0, i, hi => by
    refine Ev.step (fun k => rfl) ?_
    simp only [laws_heldCellS.l0, marks_len, if_neg (show ¬ (i : Int) < (n : Int) by omega)]
    rw [show i = n by omega]
    exact Ev.now _
  | d + 1, i, hi => by
    refine Ev.step (fun k => rfl) ?_
    have ih := heldCellS_l0 n hn m hm d (i + 1) (by omega)
    have g : rd_T167 (marks vCell 8 n m) (i : Int) = (⟨mt (m + (i : Int) * 8), ⟨m + (i : Int) * 8 + 1, m + (i : Int) * 8 + 2⟩, m + (i : Int) * 8 + 3, ⟨m + (i : Int) * 8 + 4, m + (i : Int) * 8 + 5⟩, m + (i : Int) * 8 + 6, (Int.tmod (m + (i : Int) * 8 + 7) 3 == 0)⟩ : S167) := by
      rw [rdI_Cell, marks_get vCell 8 _ n m i (by omega)]; rfl
    simp only [laws_heldCellS.l0, marks_len, if_pos (show (i : Int) < (n : Int) by omega), if_pos (show (0 : Int) ≤ (i : Int) by omega), wr i (by omega), g, wi (n := m + (i : Int) * 8 + 1) (by omega), wi (n := m + (i : Int) * 8 + 1 + 1) (by omega), wi (n := m + (i : Int) * 8 + 1 + 1 + 1) (by omega), wi (n := m + (i : Int) * 8 + 1 + 1 + 1 + 1) (by omega), wi (n := m + (i : Int) * 8 + 1 + 1 + 1 + 1 + 1) (by omega), wi (n := m + (i : Int) * 8 + 1 + 1 + 1 + 1 + 1 + 1) (by omega), wi (n := m + (i : Int) * 8 + 1 + 1 + 1 + 1 + 1 + 1 + 1) (by omega), wi (n := m + (i : Int) * 8 + 1 + 1 + 1 + 1 + 1 + 1 + 1 + 1) (by omega)]
    refine Ev.bind (mt_ev (m + (i : Int) * 8) (by omega) (by omega)) ?_
    simp only [if_true]
    simp only [show m + (i : Int) * 8 + 1 + 1 = m + (i : Int) * 8 + 2 by omega, show m + (i : Int) * 8 + 2 + 1 = m + (i : Int) * 8 + 3 by omega, show m + (i : Int) * 8 + 3 + 1 = m + (i : Int) * 8 + 4 by omega, show m + (i : Int) * 8 + 4 + 1 = m + (i : Int) * 8 + 5 by omega, show m + (i : Int) * 8 + 5 + 1 = m + (i : Int) * 8 + 6 by omega, show m + (i : Int) * 8 + 6 + 1 = m + (i : Int) * 8 + 7 by omega, show m + (i : Int) * 8 + 7 + 1 = m + (i : Int) * 8 + 8 by omega, if_true, bne_self_eq_false, Bool.false_eq_true, if_false]
    rw [show m + (i : Int) * 8 + 8 = m + ((i + 1 : Nat) : Int) * 8 by omega]
    exact ih
theorem heldCellS_ev (n : Nat) (hn : n ≤ 1000000000) (m : Int) (hm : 0 ≤ m ∧ m ≤ 1000000000000) : Ev (fun k => laws_heldCellS.f k (marks vCell 8 n m) m) (m + (n : Int) * 8) := by
  have := heldCellS_l0 n hn m hm n 0 (by omega)
  simpa [laws_heldCellS.f] using this
theorem heldState_ev (a b c d : Nat) (ha : a ≤ 10000000) (hb : b ≤ 10000000) (hc : c ≤ 10000000) (hd : d ≤ 10000000) (m : Int) (hm : 0 ≤ m ∧ m ≤ 1000000000) :
    Ev (fun k => laws_heldState.f k (iota a m) (marks vTally 3 b (m + (a : Int))) (marks vLive 6 c (m + (a : Int) + (b : Int) * 3)) (marks vCell 8 d (m + (a : Int) + (b : Int) * 3 + (c : Int) * 6)) m) (m + (a : Int) + (b : Int) * 3 + (c : Int) * 6 + (d : Int) * 8) := by
  unfold laws_heldState.f
  refine Ev.bind (heldIntS_ev a (by omega) m (by omega)) ?_
  simp only [if_neg (show ¬ m + (a : Int) < 0 by omega)]
  refine Ev.bind (heldTallyS_ev b (by omega) _ (by omega)) ?_
  simp only [if_neg (show ¬ m + (a : Int) + (b : Int) * 3 < 0 by omega)]
  refine Ev.bind (heldLiveS_ev c (by omega) _ (by omega)) ?_
  simp only [if_neg (show ¬ m + (a : Int) + (b : Int) * 3 + (c : Int) * 6 < 0 by omega)]
  refine Ev.bind (heldCellS_ev d (by omega) _ (by omega)) ?_
  simp only [if_neg (show ¬ m + (a : Int) + (b : Int) * 3 + (c : Int) * 6 + (d : Int) * 8 < 0 by omega)]
  exact Ev.now _
theorem FnExactStateNew : laws_FnExactStateNew.Pure := by
  refine Ev.rounds ?_
  unfold laws_FnExactStateNew.f spec_StateNew.f impl_StateNew.f spec_KnowNew.f impl_KnowNew.f
  simp only [if_pos (show 3 ≤ 35184372088832 by omega), Option.bind_some]
  have e := eqState_ev (List.replicate 3 0) [] [] [] (by simp) (by simp) (by simp) (by simp)
  have m := markState_ev (List.replicate 3 0) [] [] [] (by simp) (by simp) (by simp) (by simp) 1 (by omega)
  have q := heldState_ev 3 0 0 0 (by omega) (by omega) (by omega) (by omega) 1 (by omega)
  refine Ev.bind e ?_
  simp only [if_true]
  refine Ev.bind m (Ev.bind q ?_)
  refine Ev.bind e (Ev.bind q ?_)
  exact Ev.now _
end Go.Proofs.Ytmohbiagcbfkpaa.Pure
