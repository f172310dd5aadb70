/- The program's DotsIn tells of every two lists of numbers what the reference's DotsIn tells, in new memory, and leaves both as they were.
No condition beyond those of the given row. -/
import Derived.Test.YtfaiggdikdndnaaPFnExactDotsInx0
import Derived.Test.YtfaiggdikdndnaaPFnExactDotsInx1
import Derived.Test.YtfaiggdikdndnaaPFnExactDotsInx2
import Derived.Test.YtfaiggdikdndnaaPFnExactDotsInx3
import Derived.Test.YtfaiggdikdndnaaStFnExactDotsIn
import Derived.Test.YtfaiggdikdndnaaPlain
namespace Go.Proofs.Ytfaiggdikdndnaa.Pure
open Go.RowKit Go.Proofs.Ytfaiggdikdndnaa.PFnExactDotsIn Go.Proofs.Ytfaiggdikdndnaa.Plain Go.Proofs.YtfaiggdikdndnaaW.PrintWords Go.Proofs.YtfaiggdikdndnaaW.PrintLast Go.Proofs.YtfaiggdikdndnaaW.PrintMore

/-- Three numbers of 0 to 1000. -/
def knowB (l : List Int) : Bool := (l.all fun x => inB x 0 1000) && ((l.length : Int) == 3)
theorem all_drop (l : List Int) (i : Nat) (h : i < l.length) : ((l.drop i).all fun x => inB x 0 1000) = (inB (rd l (i : Int)) 0 1000 && (l.drop (i + 1)).all fun x => inB x 0 1000) := by
  rw [drop_rd l i h]; rfl

theorem spec_in (x lo hi : Int) : spec_l01In.f x lo hi = some (inB x lo hi) := in_ite x lo hi

theorem spec_KnowOk_l0 (l : List Int) (hl : l.length ≤ 140737488351232) : ∀ d i, i + d = l.length → Ev (fun k => spec_KnowOk.l0 k l (i : Int)) (((l.drop i).all fun x => inB x 0 1000) && ((l.length : Int) == 3))
  | 0, i, hi => by
    refine Ev.step (fun k => rfl) ?_
    simp only [spec_KnowOk.l0, if_neg (show ¬ (i : Int) < (l.length : Int) by omega), List.drop_eq_nil_of_le (show l.length ≤ i by omega), List.all_nil, Bool.true_and]
    exact Ev.now _
  | d + 1, i, hi => by
    refine Ev.step (fun k => rfl) ?_
    have ih := spec_KnowOk_l0 l hl d (i + 1) (by omega)
    simp only [spec_KnowOk.l0, if_pos (show (i : Int) < (l.length : Int) by omega), if_pos (show (0 : Int) ≤ (i : Int) by omega), wr i (by omega), spec_in, Option.bind_some, all_drop l i (by omega)]
    cases inB (rd l (i : Int)) 0 1000
    · exact Ev.now _
    · exact ih
theorem spec_KnowOk_ev (l : List Int) (hl : l.length ≤ 140737488351232) : Ev (fun k => spec_KnowOk.f k l) (knowB l) := spec_KnowOk_l0 l hl l.length 0 (by omega)

theorem know3 {l : List Int} (h : knowB l = true) : ∃ x y z, l = [x, y, z] ∧ (0 ≤ x ∧ x ≤ 1000) ∧ (0 ≤ y ∧ y ≤ 1000) ∧ (0 ≤ z ∧ z ≤ 1000) := by
  unfold knowB at h
  simp only [Bool.and_eq_true, beq_iff_eq] at h
  obtain ⟨h1, h2⟩ := h
  match l, h2 with
  | [x, y, z], _ =>
    simp [inB_true] at h1
    exact ⟨x, y, z, rfl, h1⟩
  | [], h => simp at h
  | [_], h => simp at h
  | [_, _], h => simp at h
  | _ :: _ :: _ :: _ :: _, h => simp at h; omega
theorem rd0 (x y z : Int) : rd [x, y, z] 0 = x := by simp [rd]
theorem rd1 (x y z : Int) : rd [x, y, z] 1 = y := by simp [rd]
theorem rd2 (x y z : Int) : rd [x, y, z] 2 = z := by simp [rd]
theorem w1 : wrap64 (0 + 1) = 1 := by rw [wi (by omega)]; rfl
theorem w2 : wrap64 (1 + 1) = 2 := by rw [wi (by omega)]; rfl
theorem w3 : wrap64 (2 + 1) = 3 := by rw [wi (by omega)]; rfl
theorem len3 (x y z : Int) : (([x, y, z] : List Int).length : Int) = 3 := by simp

/-- d dots of one replica, from number s on. -/
def runD (r : Int) : Nat → Int → List S39
  | 0, _ => []
  | d + 1, s => ⟨r, s⟩ :: runD r d (s + 1)
theorem runD_len (r : Int) : ∀ (d : Nat) (s : Int), (runD r d s).length = d
  | 0, _ => rfl
  | d + 1, s => by simp [runD, runD_len r d]
def gap (x u : Int) : Nat := (u - x).toNat
def dotsL (a b : List Int) : List S39 :=
  if knowB a = true then (if knowB b = true then runD 0 (gap (rd a 0) (rd b 0)) (rd a 0 + 1) ++ (runD 1 (gap (rd a 1) (rd b 1)) (rd a 1 + 1) ++ runD 2 (gap (rd a 2) (rd b 2)) (rd a 2 + 1)) else []) else []
theorem dotsL_len (a b : List Int) : (dotsL a b).length ≤ 3000 := by
  unfold dotsL
  by_cases ka : knowB a = true
  · by_cases kb : knowB b = true
    · obtain ⟨x, y, z, rfl, hx, hy, hz⟩ := know3 ka
      obtain ⟨u, v, w, rfl, hu, hv, hw⟩ := know3 kb
      rw [if_pos ka, if_pos kb, List.length_append, List.length_append, runD_len, runD_len, runD_len]
      simp only [rd0, rd1, rd2, gap]
      omega
    · simp [ka, kb]
  · simp [ka]

theorem spec_DotsIn_l1 (a b : List Int) (i u : Int) (h0 : 0 ≤ i) (h1 : i < (b.length : Int)) (hu : rd b i = u) (hm : u ≤ 1000) (r : List S39) : ∀ (d : Nat) (s : Int) (out : List S39), d = (u + 1 - s).toNat → 0 ≤ s → out.length + d ≤ 100000 →
    Ev (fun k => spec_DotsIn.l0 k a b (out ++ runD i d s) (wrap64 (i + 1))) r → Ev (fun k => spec_DotsIn.l1 k a b out i s) r
  | 0, s, out, hd, hs, ho, h => by
    refine Ev.step (fun k => rfl) ?_
    simp only [spec_DotsIn.l1, if_pos h0, if_pos h1, hu, if_neg (show ¬ s ≤ u by omega)]
    simpa [runD] using h
  | d + 1, s, out, hd, hs, ho, h => by
    refine Ev.step (fun k => rfl) ?_
    simp only [spec_DotsIn.l1, if_pos h0, if_pos h1, hu, if_pos (show s ≤ u by omega), if_pos (show out.length < 8796093022208 by omega), wi (n := s + 1) (by omega)]
    refine spec_DotsIn_l1 a b i u h0 h1 hu hm r d (s + 1) _ (by omega) (by omega) (by simp; omega) ?_
    simpa [runD] using h
theorem spec_DotsIn_row (a b : List Int) (out : List S39) (i j x u : Int) (h0 : 0 ≤ i) (ha : i < (a.length : Int)) (hb : i < (b.length : Int)) (hx : rd a i = x) (hu : rd b i = u) (hxr : 0 ≤ x ∧ x ≤ 1000) (hm : u ≤ 1000) (hj : wrap64 (i + 1) = j) (ho : out.length ≤ 10000) (r : List S39)
    (h : Ev (fun k => spec_DotsIn.l0 k a b (out ++ runD i (gap x u) (x + 1)) j) r) : Ev (fun k => spec_DotsIn.l0 k a b out i) r := by
  refine Ev.step (fun k => rfl) ?_
  simp only [spec_DotsIn.l0, if_pos ha, if_pos h0, hx, wi (n := x + 1) (by omega)]
  refine spec_DotsIn_l1 a b i u h0 hb hu hm r (gap x u) (x + 1) out (by unfold gap; omega) (by omega) (by unfold gap; omega) ?_
  rw [hj]; exact h
theorem spec_DotsIn_ev (a b : List Int) (ha : a.length ≤ 140737488351232) (hb : b.length ≤ 140737488351232) : Ev (fun k => spec_DotsIn.f k a b) (dotsL a b) := by
  unfold spec_DotsIn.f dotsL
  simp only [Option.bind_some]
  refine Ev.bind (spec_KnowOk_ev a ha) ?_
  by_cases ka : knowB a = true
  · simp only [if_pos ka]
    refine Ev.bind (spec_KnowOk_ev b hb) ?_
    refine Ev.step (fun k => rfl) ?_
    by_cases kb : knowB b = true
    · simp only [spec_DotsIn.j0, kb, Bool.not_true, Bool.false_eq_true, if_false, if_true]
      obtain ⟨x, y, z, rfl, hx, hy, hz⟩ := know3 ka
      obtain ⟨u, v, w, rfl, hu, hv, hw⟩ := know3 kb
      refine spec_DotsIn_row _ _ _ 0 1 x u (by omega) (by simp) (by simp) (rd0 ..) (rd0 ..) hx (by omega) w1 (by simp) _ ?_
      refine spec_DotsIn_row _ _ _ 1 2 y v (by omega) (by simp) (by simp) (rd1 ..) (rd1 ..) hy (by omega) w2 (by simp only [List.nil_append, runD_len, gap]; omega) _ ?_
      refine spec_DotsIn_row _ _ _ 2 3 z w (by omega) (by simp) (by simp) (rd2 ..) (rd2 ..) hz (by omega) w3 (by simp only [List.nil_append, List.length_append, runD_len, gap]; omega) _ ?_
      refine Ev.step (fun k => rfl) ?_
      simp only [spec_DotsIn.l0, len3, if_neg (show ¬ (3 : Int) < 3 by omega), rd0, rd1, rd2, List.nil_append, List.append_assoc]
      exact Ev.now _
    · simp only [spec_DotsIn.j0, Bool.eq_false_iff.2 kb, Bool.not_false, if_true, Bool.false_eq_true, if_false]
      exact Ev.now _
  · simp only [if_neg ka]
    refine Ev.step (fun k => rfl) ?_
    simp only [spec_DotsIn.j0, if_true]
    exact Ev.now _

theorem impl_in (x lo hi : Int) : impl_within.f x lo hi = some (inB x lo hi) := in_ite x lo hi

theorem impl_KnowOk_l0 (l : List Int) (hl : l.length ≤ 140737488351232) : ∀ d i, i + d = l.length → Ev (fun k => impl_KnowOk.l0 k l l (l.length : Int) (i : Int)) (((l.drop i).all fun x => inB x 0 1000) && ((l.length : Int) == 3))
  | 0, i, hi => by
    refine Ev.step (fun k => rfl) ?_
    simp only [impl_KnowOk.l0, if_neg (show ¬ (i : Int) < (l.length : Int) by omega), List.drop_eq_nil_of_le (show l.length ≤ i by omega), List.all_nil, Bool.true_and]
    exact Ev.now _
  | d + 1, i, hi => by
    refine Ev.step (fun k => rfl) ?_
    have ih := impl_KnowOk_l0 l hl d (i + 1) (by omega)
    simp only [impl_KnowOk.l0, if_pos (show (i : Int) < (l.length : Int) by omega), if_pos (show (0 : Int) ≤ (i : Int) by omega), wr i (by omega), impl_in, Option.bind_some, all_drop l i (by omega)]
    cases inB (rd l (i : Int)) 0 1000
    · exact Ev.now _
    · exact ih
theorem impl_KnowOk_ev (l : List Int) (hl : l.length ≤ 140737488351232) : Ev (fun k => impl_KnowOk.f k l) (knowB l) := impl_KnowOk_l0 l hl l.length 0 (by omega)

theorem impl_DotsIn_l1 (a b : List Int) (i n u : Int) (h0 : 0 ≤ i) (h1 : i < (b.length : Int)) (hu : rd b i = u) (hm : u ≤ 1000) (r : List S39) : ∀ (d : Nat) (s : Int) (out : List S39), d = (u + 1 - s).toNat → 0 ≤ s → out.length + d ≤ 100000 →
    Ev (fun k => impl_DotsIn.l0 k b (out ++ runD i d s) a n (wrap64 (i + 1))) r → Ev (fun k => impl_DotsIn.l1 k b out i s a n i) r
  | 0, s, out, hd, hs, ho, h => by
    refine Ev.step (fun k => rfl) ?_
    simp only [impl_DotsIn.l1, if_pos h0, if_pos h1, hu, if_neg (show ¬ s ≤ u by omega)]
    simpa [runD] using h
  | d + 1, s, out, hd, hs, ho, h => by
    refine Ev.step (fun k => rfl) ?_
    simp only [impl_DotsIn.l1, if_pos h0, if_pos h1, hu, if_pos (show s ≤ u by omega), if_pos (show out.length < 8796093022208 by omega), wi (n := s + 1) (by omega)]
    refine impl_DotsIn_l1 a b i n u h0 h1 hu hm r d (s + 1) _ (by omega) (by omega) (by simp; omega) ?_
    simpa [runD] using h
theorem impl_DotsIn_row (a b : List Int) (out : List S39) (i j x u : Int) (h0 : 0 ≤ i) (h3 : i < 3) (ha : i < (a.length : Int)) (hb : i < (b.length : Int)) (hx : rd a i = x) (hu : rd b i = u) (hxr : 0 ≤ x ∧ x ≤ 1000) (hm : u ≤ 1000) (hj : wrap64 (i + 1) = j) (ho : out.length ≤ 10000) (r : List S39)
    (h : Ev (fun k => impl_DotsIn.l0 k b (out ++ runD i (gap x u) (x + 1)) a 3 j) r) : Ev (fun k => impl_DotsIn.l0 k b out a 3 i) r := by
  refine Ev.step (fun k => rfl) ?_
  simp only [impl_DotsIn.l0, if_pos h3, if_pos ha, if_pos h0, hx, wi (n := x + 1) (by omega)]
  refine impl_DotsIn_l1 a b i 3 u h0 hb hu hm r (gap x u) (x + 1) out (by unfold gap; omega) (by omega) (by unfold gap; omega) ?_
  rw [hj]; exact h
theorem impl_DotsIn_ev (a b : List Int) (ha : a.length ≤ 140737488351232) (hb : b.length ≤ 140737488351232) : Ev (fun k => impl_DotsIn.f k a b) (dotsL a b) := by
  unfold impl_DotsIn.f dotsL
  simp only [Option.bind_some]
  refine Ev.bind (impl_KnowOk_ev a ha) ?_
  by_cases ka : knowB a = true
  · simp only [if_pos ka]
    refine Ev.bind (impl_KnowOk_ev b hb) ?_
    refine Ev.step (fun k => rfl) ?_
    by_cases kb : knowB b = true
    · simp only [impl_DotsIn.j0, kb, Bool.not_true, Bool.false_eq_true, if_false, if_true]
      obtain ⟨x, y, z, rfl, hx, hy, hz⟩ := know3 ka
      obtain ⟨u, v, w, rfl, hu, hv, hw⟩ := know3 kb
      simp only [len3]
      refine impl_DotsIn_row _ _ _ 0 1 x u (by omega) (by omega) (by simp) (by simp) (rd0 ..) (rd0 ..) hx (by omega) w1 (by simp) _ ?_
      refine impl_DotsIn_row _ _ _ 1 2 y v (by omega) (by omega) (by simp) (by simp) (rd1 ..) (rd1 ..) hy (by omega) w2 (by simp only [List.nil_append, runD_len, gap]; omega) _ ?_
      refine impl_DotsIn_row _ _ _ 2 3 z w (by omega) (by omega) (by simp) (by simp) (rd2 ..) (rd2 ..) hz (by omega) w3 (by simp only [List.nil_append, List.length_append, runD_len, gap]; omega) _ ?_
      refine Ev.step (fun k => rfl) ?_
      simp only [impl_DotsIn.l0, if_neg (show ¬ (3 : Int) < 3 by omega), rd0, rd1, rd2, List.nil_append, List.append_assoc]
      exact Ev.now _
    · simp only [impl_DotsIn.j0, Bool.eq_false_iff.2 kb, Bool.not_false, if_true, Bool.false_eq_true, if_false]
      exact Ev.now _
  · simp only [if_neg ka]
    refine Ev.step (fun k => rfl) ?_
    simp only [impl_DotsIn.j0, if_true]
    exact Ev.now _

theorem toIntS_l0 (l : List Int) (hl : l.length ≤ 140737488351232) : ∀ d i, i + d = l.length → Ev (fun k => laws_toIntS.l0 k l (l.take i ++ List.replicate d 0) (i : Int)) l
  | 0, i, hi => by
    refine Ev.step (fun k => rfl) ?_
    simp only [laws_toIntS.l0, if_neg (show ¬ (i : Int) < (l.length : Int) by omega)]
    rw [show l.take i ++ List.replicate 0 0 = l by rw [List.take_of_length_le (by omega)]; simp]
    exact Ev.now _
  | d + 1, i, hi => by
    refine Ev.step (fun k => rfl) ?_
    have ih := toIntS_l0 l hl d (i + 1) (by omega)
    have e : (l.take i ++ List.replicate (d + 1) 0).set (i : Int).toNat (rd l (i : Int)) = l.take (i + 1) ++ List.replicate d 0 := take_set l 0 i d (by omega)
    simp only [laws_toIntS.l0, if_pos (show (i : Int) < (l.length : Int) by omega), if_pos (show (0 : Int) ≤ (i : Int) by omega), wr i (by omega),
      if_pos (show (i : Int) < ((l.take i ++ List.replicate (d + 1) 0).length : Int) by rw [List.length_append, List.length_take, List.length_replicate]; omega), e]
    exact ih
theorem toIntS_ev (l : List Int) (hl : l.length ≤ 17592186043904) : Ev (fun k => laws_toIntS.f k l) l := by
  unfold laws_toIntS.f
  simp only [if_pos (show (0 : Int) ≤ (l.length : Int) by omega), Int.toNat_natCast, if_pos (show l.length ≤ 35184372088832 by omega)]
  exact toIntS_l0 l (by omega) l.length 0 (by omega)

theorem eqIntS_l0 (l : List Int) (hl : l.length ≤ 140737488351232) : ∀ d i, i + d = l.length → Ev (fun k => laws_eqIntS.l0 k l l (i : Int)) true
  | 0, i, hi => by
    refine Ev.step (fun k => rfl) ?_
    simp only [laws_eqIntS.l0, if_neg (show ¬ (i : Int) < (l.length : Int) by omega)]
    exact Ev.now _
  | d + 1, i, hi => by
    refine Ev.step (fun k => rfl) ?_
    simp only [laws_eqIntS.l0, if_pos (show (i : Int) < (l.length : Int) by omega), if_pos (show (0 : Int) ≤ (i : Int) by omega), if_true, wr i (by omega)]
    exact eqIntS_l0 l hl d (i + 1) (by omega)
theorem eqIntS_ev (l : List Int) (hl : l.length ≤ 140737488351232) : Ev (fun k => laws_eqIntS.f k l l) true := by
  unfold laws_eqIntS.f
  simp only [if_true]
  exact eqIntS_l0 l hl l.length 0 (by omega)

/-- n numbers from m on. -/
def iota : Nat → Int → List Int
  | 0, _ => []
  | n + 1, m => m :: iota n (m + 1)
theorem iota_len : ∀ n m, (iota n m).length = n
  | 0, _ => rfl
  | n + 1, m => by simp [iota, iota_len n]
theorem iota_snoc : ∀ n m, iota (n + 1) m = iota n m ++ [m + n]
  | 0, m => by simp [iota]
  | n + 1, m => by
    rw [show iota (n + 1 + 1) m = m :: iota (n + 1) (m + 1) from rfl, iota_snoc n (m + 1)]
    simp [iota]; omega
theorem iota_rd : ∀ n m (i : Nat), i < n → rd (iota n m) (i : Int) = m + i
  | 0, _, i, h => by omega
  | n + 1, m, 0, _ => by simp [iota, rd]
  | n + 1, m, i + 1, h => by
    have := iota_rd n (m + 1) i (by omega)
    simp [iota, rd] at this ⊢
    omega
theorem markIntS_l0 (l : List Int) (hl : l.length ≤ 140737488351232) (m : Int) (hm : 0 ≤ m ∧ m ≤ 1000000000000) : ∀ d i, i + d = l.length → Ev (fun k => laws_markIntS.l0 k (iota i m ++ l.drop i) (m + i) (i : Int)) (m + (l.length : Int), iota l.length m)
  | 0, i, hi => by
    refine Ev.step (fun k => rfl) ?_
    have e : (iota i m ++ l.drop i) = iota l.length m := by rw [List.drop_eq_nil_of_le (by omega), show i = l.length by omega, List.append_nil]
    simp only [laws_markIntS.l0, e, iota_len, if_neg (show ¬ (i : Int) < (l.length : Int) by omega)]
    rw [show (i : Int) = (l.length : Int) by omega]
    exact Ev.now _
  | d + 1, i, hi => by
    refine Ev.step (fun k => rfl) ?_
    have ih := markIntS_l0 l hl m hm d (i + 1) (by omega)
    have hlen : (iota i m ++ l.drop i).length = l.length := by rw [List.length_append, iota_len, List.length_drop]; omega
    have e : (iota i m ++ l.drop i).set (i : Int).toNat (m + i) = iota (i + 1) m ++ l.drop (i + 1) := by
      rw [Int.toNat_natCast, List.set_append_right _ _ (by rw [iota_len]; omega), iota_len, Nat.sub_self, drop_rd l i (by omega), List.set_cons_zero, iota_snoc, List.append_assoc]
      rfl
    simp only [laws_markIntS.l0, hlen, if_pos (show (i : Int) < (l.length : Int) by omega), if_pos (show (0 : Int) ≤ (i : Int) by omega), wr i (by omega), e, wi (n := m + i + 1) (by omega)]
    rw [show m + (i : Int) + 1 = m + ((i + 1 : Nat) : Int) by omega]
    exact ih
theorem markIntS_ev (l : List Int) (hl : l.length ≤ 140737488351232) (m : Int) (hm : 0 ≤ m ∧ m ≤ 1000000000000) : Ev (fun k => laws_markIntS.f k l m) (m + (l.length : Int), iota l.length m) := by
  have := markIntS_l0 l hl m hm l.length 0 (by omega)
  simpa [laws_markIntS.f, iota] using this

theorem eqDot_refl (r s : Int) : laws_eqDot.f r s r s = some true := by simp [laws_eqDot.f]

theorem eqDotS_l0 (l : List S39) (hl : l.length ≤ 140737488351232) : ∀ d i, i + d = l.length → Ev (fun k => laws_eqDotS.l0 k l l (i : Int)) true
  | 0, i, hi => by
    refine Ev.step (fun k => rfl) ?_
    simp only [laws_eqDotS.l0, if_neg (show ¬ (i : Int) < (l.length : Int) by omega)]
    exact Ev.now _
  | d + 1, i, hi => by
    refine Ev.step (fun k => rfl) ?_
    simp only [laws_eqDotS.l0, if_pos (show (i : Int) < (l.length : Int) by omega), if_pos (show (0 : Int) ≤ (i : Int) by omega), eqDot_refl, Option.bind_some, if_true, wr i (by omega)]
    exact eqDotS_l0 l hl d (i + 1) (by omega)
theorem eqDotS_ev (l : List S39) (hl : l.length ≤ 140737488351232) : Ev (fun k => laws_eqDotS.f k l l) true := by
  unfold laws_eqDotS.f
  simp only [if_true]
  exact eqDotS_l0 l hl l.length 0 (by omega)

def vD (m : Int) : S39 := ⟨m, m + 1⟩
theorem markDotS_l0 (l : List S39) (hl : l.length ≤ 1000000000) (m : Int) (hm : 0 ≤ m ∧ m ≤ 1000000000000) : ∀ d i, i + d = l.length → Ev (fun k => laws_markDotS.l0 k (marks vD 2 i m ++ l.drop i) (m + i * 2) (i : Int)) (m + (l.length : Int) * 2, marks vD 2 l.length m)
  | 0, i, hi => by
    refine Ev.step (fun k => rfl) ?_
    simp only [laws_markDotS.l0, marks_mid vD 2 l m i (by omega), if_neg (show ¬ (i : Int) < (l.length : Int) by omega)]
    rw [List.drop_eq_nil_of_le (show l.length ≤ i by omega), List.append_nil, show i = l.length by omega]
    exact Ev.now _
  | d + 1, i, hi => by
    refine Ev.step (fun k => rfl) ?_
    have ih := markDotS_l0 l hl m hm d (i + 1) (by omega)
    have hlen := marks_mid vD 2 l m i (by omega)
    simp only [laws_markDotS.l0, hlen, if_pos (show (i : Int) < (l.length : Int) by omega), if_pos (show (0 : Int) ≤ (i : Int) by omega), wr i (by omega), Option.bind_some, List.set_set, wi (n := m + i * 2 + 1) (by omega), wi (n := m + i * 2 + 1 + 1) (by omega)]
    rw [marks_set vD 2 l m i (by omega) _ (by
      rw [show vD (m + (i : Int) * 2) = ⟨m + (i : Int) * 2, m + (i : Int) * 2 + 1⟩ from rfl]
      unfold rd_T39
      rw [Int.toNat_natCast, getD_set _ _ _ _ (Nat.lt_of_lt_of_eq (show i < l.length by omega) hlen.symm)]), show m + (i : Int) * 2 + 1 + 1 = m + ((i + 1 : Nat) : Int) * 2 by omega]
    exact ih
theorem markDotS_ev (l : List S39) (hl : l.length ≤ 1000000000) (m : Int) (hm : 0 ≤ m ∧ m ≤ 1000000000000) : Ev (fun k => laws_markDotS.f k l m) (m + (l.length : Int) * 2, marks vD 2 l.length m) := by
  have := markDotS_l0 l hl m hm l.length 0 (by omega)
  simpa [laws_markDotS.f, marks] using this
theorem heldDotS_l0 (n : Nat) (hn : n ≤ 1000000000) (m : Int) (hm : 0 ≤ m ∧ m ≤ 1000000000000) : ∀ d i, i + d = n → Ev (fun k => laws_heldDotS.l0 k (marks vD 2 n m) (m + i * 2) (i : Int)) (m + (n : Int) * 2)
  | 0, i, hi => by
    refine Ev.step (fun k => rfl) ?_
    simp only [laws_heldDotS.l0, marks_len, if_neg (show ¬ (i : Int) < (n : Int) by omega)]
    rw [show i = n by omega]
    exact Ev.now _
  | d + 1, i, hi => by
    refine Ev.step (fun k => rfl) ?_
    have ih := heldDotS_l0 n hn m hm d (i + 1) (by omega)
    have g : rd_T39 (marks vD 2 n m) (i : Int) = ⟨m + i * 2, m + i * 2 + 1⟩ := by
      unfold rd_T39
      rw [Int.toNat_natCast, marks_get vD 2 _ n m i (by omega)]; rfl
    simp only [laws_heldDotS.l0, marks_len, if_pos (show (i : Int) < (n : Int) by omega), if_pos (show (0 : Int) ≤ (i : Int) by omega), wr i (by omega), g, wi (n := m + i * 2 + 1) (by omega), wi (n := m + i * 2 + 1 + 1) (by omega), if_true]
    rw [show m + (i : Int) * 2 + 1 + 1 = m + ((i + 1 : Nat) : Int) * 2 by omega]
    exact ih
theorem heldDotS_ev (n : Nat) (hn : n ≤ 1000000000) (m : Int) (hm : 0 ≤ m ∧ m ≤ 1000000000000) : Ev (fun k => laws_heldDotS.f k (marks vD 2 n m) m) (m + (n : Int) * 2) := by
  have := heldDotS_l0 n hn m hm n 0 (by omega)
  simpa [laws_heldDotS.f] using this

theorem FnExactDotsIn : laws_FnExactDotsIn.Pure0 := by
  intro a b _ _
  refine Ev.rounds ?_
  unfold laws_FnExactDotsIn.f
  by_cases h : (a.length : Int) > 1048576
  · simp only [if_pos h]; exact Ev.now _
  by_cases h' : (b.length : Int) > 1048576
  · simp only [if_neg h, if_pos h']; exact Ev.now _
  simp only [if_neg h, if_neg h']
  have ta := toIntS_ev a (by omega)
  have tb := toIntS_ev b (by omega)
  have hl := dotsL_len a b
  have eq := eqDotS_ev (dotsL a b) (by omega)
  have im := impl_DotsIn_ev a b (by omega) (by omega)
  refine Ev.bind ta (Ev.bind tb (Ev.bind (spec_DotsIn_ev a b (by omega) (by omega)) (Ev.bind ta (Ev.bind tb (Ev.bind im (Ev.bind eq ?_))))))
  simp only [if_true]
  refine Ev.bind ta (Ev.bind (eqIntS_ev a (by omega)) ?_)
  simp only [if_true]
  refine Ev.bind tb (Ev.bind (eqIntS_ev b (by omega)) ?_)
  simp only [if_true]
  refine Ev.bind (markIntS_ev a (by omega) 1 (by omega)) (Ev.bind (markIntS_ev b (by omega) _ (by simp only; omega)) ?_)
  simp only [if_neg (show ¬ (1 + (a.length : Int) + (b.length : Int)) < 0 by omega)]
  refine Ev.bind eq ?_
  refine Ev.step (fun k => rfl) ?_
  simp only [laws_FnExactDotsIn.j0, Bool.not_true, Bool.false_eq_true, if_false]
  have hm := markDotS_ev (dotsL a b) (by omega) 1 (by omega)
  have hh := heldDotS_ev (dotsL a b).length (by omega) 1 (by omega)
  refine Ev.bind hm (Ev.bind hh ?_)
  simp only [if_neg (show ¬ (1 + ((dotsL a b).length : Int) * 2) < 0 by omega), if_true]
  refine Ev.bind ta (Ev.bind tb (Ev.bind im (Ev.bind eq ?_)))
  simp only [if_true]
  refine Ev.bind hh ?_
  simp only [if_neg (show ¬ (1 + ((dotsL a b).length : Int) * 2) < 0 by omega)]
  exact Ev.now _

end Go.Proofs.Ytfaiggdikdndnaa.Pure
