/- The program's Unsealed tells of every text what the reference's Unsealed tells.
No condition beyond those of the given row. -/
import Derived.Test.YtfaiggdikdndnaaPFnExactUnsealedx0
import Derived.Test.YtfaiggdikdndnaaPFnExactUnsealedx1
import Derived.Test.YtfaiggdikdndnaaPFnExactUnsealedx2
import Derived.Test.YtfaiggdikdndnaaPlain
namespace Go.Proofs.Ytfaiggdikdndnaa.Pure
open Go.RowKit Go.Proofs.Ytfaiggdikdndnaa.PFnExactUnsealed Go.Proofs.Ytfaiggdikdndnaa.Plain Go.Proofs.YtfaiggdikdndnaaW.PrintWords Go.Proofs.YtfaiggdikdndnaaW.PrintLast Go.Proofs.YtfaiggdikdndnaaW.PrintMore

/-- One step of the sum, told as the program has it. -/
def crc1 (x : Int) : Int := if Int.tmod x 2 = 1 then Go.bits .xor .u32 ((Int.tdiv x 2) % 4294967296) 3558460437 else (Int.tdiv x 2) % 4294967296
def crcN : Nat → Int → Int
  | 0, x => x
  | n + 1, x => crcN n (crc1 x)
/-- The sum behind d bytes from byte i on. -/
def crcB (s : ByteArray) : Nat → Nat → Int → Int
  | 0, _, x => x
  | d + 1, i, x => crcB s d (i + 1) (crcN 8 (Go.bits .xor .u32 x ((bt s (i : Int)) % 4294967296)))

theorem spec_SumMore_l1 (s : ByteArray) (i : Nat) (hi : i < 4611686018427387904) (r : Int) : ∀ (d j : Nat) (x : Int), j + d = 8 → Ev (fun k => spec_SumMore.l0 k (crcN d x) s ((i + 1 : Nat) : Int)) r → Ev (fun k => spec_SumMore.l1 k x s (i : Int) (j : Int)) r
  | 0, j, x, hj, h => by
    refine Ev.step (fun k => rfl) ?_
    simp only [spec_SumMore.l1, if_neg (show ¬ (j : Int) < 8 by omega), wr i hi]
    exact h
  | d + 1, j, x, hj, h => by
    refine Ev.step (fun k => rfl) ?_
    have ih := spec_SumMore_l1 s i hi r d (j + 1) (crc1 x) (by omega) h
    simp only [spec_SumMore.l1, if_pos (show (j : Int) < 8 by omega), wr j (by omega)]
    by_cases c : Int.tmod x 2 = 1
    · simp only [if_pos c]
      simpa only [crc1, if_pos c] using ih
    · simp only [if_neg c]
      simpa only [crc1, if_neg c] using ih
theorem spec_SumMore_l0 (s : ByteArray) (hs : s.size ≤ 140737488351232) : ∀ d i x, i + d = s.size → Ev (fun k => spec_SumMore.l0 k x s (i : Int)) (crcB s d i x)
  | 0, i, x, hi => by
    refine Ev.step (fun k => rfl) ?_
    simp only [spec_SumMore.l0, if_neg (show ¬ (i : Int) < (s.size : Int) by omega)]
    exact Ev.now _
  | d + 1, i, x, hi => by
    refine Ev.step (fun k => rfl) ?_
    simp only [spec_SumMore.l0, if_pos (show (i : Int) < (s.size : Int) by omega), if_pos (show (0 : Int) ≤ (i : Int) by omega)]
    exact spec_SumMore_l1 s i (by omega) _ 8 0 _ rfl (spec_SumMore_l0 s hs d (i + 1) _ (by omega))
theorem spec_SumMore_ev (x : Int) (s : ByteArray) (hs : s.size ≤ 140737488351232) : Ev (fun k => spec_SumMore.f k x s) (crcB s s.size 0 x) := spec_SumMore_l0 s hs s.size 0 x (by omega)

theorem spec_SumOf_ev (s : ByteArray) (hs : s.size ≤ 140737488351232) : Ev (fun k => spec_SumOf.f k s) (crcB s s.size 0 4294967295) := by
  unfold spec_SumOf.f
  exact Ev.bind (spec_SumMore_ev _ s hs) (Ev.now _)

/-- A sum in four bytes, the highest first. -/
def four (x : Int) : ByteArray := strOfNums [(x / 16777216) % 256, (x / 65536) % 256, (x / 256) % 256, x % 256]
theorem four_size (x : Int) : (four x).size = 4 := by unfold four; rw [strOfNums_size]; rfl
theorem bits_range (b : BinOp) (x y : Int) (h : ∃ v : Nat, Go.bits b .u32 x y = IntKind.u32.wrap v) : 0 ≤ Go.bits b .u32 x y ∧ Go.bits b .u32 x y ≤ 4294967295 := by
  obtain ⟨v, hv⟩ := h
  rw [hv, IntKind.wrap_u32]; omega
theorem xor_range (x y : Int) : 0 ≤ Go.bits .xor .u32 x y ∧ Go.bits .xor .u32 x y ≤ 4294967295 := bits_range _ _ _ ⟨_, rfl⟩
theorem crc1_range (x : Int) : 0 ≤ crc1 x ∧ crc1 x ≤ 4294967295 := by
  unfold crc1
  split
  · exact xor_range _ _
  · omega
theorem crcN_range : ∀ (n : Nat) (x : Int), 0 ≤ x ∧ x ≤ 4294967295 → 0 ≤ crcN n x ∧ crcN n x ≤ 4294967295
  | 0, _, h => h
  | n + 1, x, _ => crcN_range n _ (crc1_range x)
theorem crcB_range (s : ByteArray) : ∀ (d i : Nat) (x : Int), 0 ≤ x ∧ x ≤ 4294967295 → 0 ≤ crcB s d i x ∧ crcB s d i x ≤ 4294967295
  | 0, _, _, h => h
  | d + 1, i, _, _ => crcB_range s d (i + 1) _ (crcN_range 8 _ (xor_range _ _))
/-- The sum of a text. -/
def sumB (s : ByteArray) : Int := crcB s s.size 0 4294967295
theorem sumB_range (s : ByteArray) : 0 ≤ sumB s ∧ sumB s ≤ 4294967295 := crcB_range s _ _ _ (by omega)
def sealT (s : ByteArray) : ByteArray × Bool := if (s.size : Int) > 20000 then ((⟨#[]⟩ : ByteArray), false) else (s ++ four (sumB s), true)

theorem spec_l02Four_eq (x : Int) : spec_l02Four.f x = some (four x) := rfl

theorem toL (s : ByteArray) : s.toList = s.data.toList := ByteArray.toList_eq s
theorem ext_eq {a b : ByteArray} (h : a.toList = b.toList) : a = b := by
  rw [toL, toL] at h
  cases a; cases b; simp at h; rw [h]
theorem len_toL (s : ByteArray) : s.toList.length = s.size := by rw [toL, Array.length_toList]; rfl
theorem app_toL (a b : ByteArray) : (a ++ b).toList = a.toList ++ b.toList := by
  simp only [toL]; simp
theorem ext_toL (s : ByteArray) (a b : Nat) : (s.extract a b).toList = (s.toList.drop a).take (b - a) := by
  rw [toL, toL]; simp

/-- The text that a sealed text holds. -/
def unsealT (s : ByteArray) : ByteArray × Bool :=
  if (s.size : Int) - 4 < 0 then ((⟨#[]⟩ : ByteArray), false) else if (s.size : Int) - 4 > 20000 then ((⟨#[]⟩ : ByteArray), false) else
    if (s.extract (s.size - 4) s.size).toList = (four (sumB (s.extract 0 (s.size - 4)))).toList then (s.extract 0 (s.size - 4), true) else ((⟨#[]⟩ : ByteArray), false)
theorem unseal_iff (s : ByteArray) (n : Nat) (f : ByteArray) : (s.extract 0 n ++ f).toList = s.toList ↔ (s.extract n s.size).toList = f.toList := by
  rw [app_toL, ext_toL, ext_toL]
  simp only [List.drop_zero, Nat.sub_zero]
  have e : (s.toList.drop n).take (s.size - n) = s.toList.drop n := List.take_of_length_le (by rw [List.length_drop, len_toL]; omega)
  rw [e]
  constructor
  · intro h1
    have h2 : s.toList.take n ++ f.toList = s.toList.take n ++ s.toList.drop n := by rw [h1, List.take_append_drop]
    exact (List.append_cancel_left h2).symm
  · intro h1
    rw [← h1, List.take_append_drop]
theorem ext_size (s : ByteArray) (n : Nat) (h : n ≤ s.size) : (s.extract 0 n).size = n := by simp; omega

theorem spec_Unsealed_ev (s : ByteArray) (hs : s.size ≤ 140737488351232) : Ev (fun k => spec_Unsealed.f k s) (unsealT s) := by
  unfold spec_Unsealed.f unsealT
  rw [wi (n := (s.size : Int) - 4) (by omega)]
  by_cases c : (s.size : Int) - 4 < 0
  · simp only [if_pos c]; exact Ev.now _
  by_cases c2 : (s.size : Int) - 4 > 20000
  · simp only [if_neg c, if_pos c2]; exact Ev.now _
  have e : ((s.size : Int) - 4).toNat = s.size - 4 := by omega
  simp only [if_neg c, if_neg c2, if_pos (show (0 : Int) ≤ (s.size : Int) - 4 by omega), if_pos (show (s.size : Int) - 4 ≤ (s.size : Int) by omega), e]
  refine Ev.bind (spec_SumOf_ev _ (by rw [ext_size s _ (by omega)]; omega)) ?_
  simp only [spec_l02Four_eq, Option.bind_some]
  by_cases c3 : (s.extract (s.size - 4) s.size).toList = (four (sumB (s.extract 0 (s.size - 4)))).toList
  · have c4 := c3
    unfold sumB at c4
    simp only [if_pos c3, if_pos c4]; exact Ev.now _
  · have c4 := c3
    unfold sumB at c4
    simp only [if_neg c3, if_neg c4]; exact Ev.now _

theorem impl_SumMore_l1 (s : ByteArray) (i : Nat) (hi : i < 4611686018427387904) (r : Int) : ∀ (d j : Nat) (x : Int), j + d = 8 → Ev (fun k => impl_SumMore.l0 k (crcN d x) s ((i + 1 : Nat) : Int)) r → Ev (fun k => impl_SumMore.l1 k x s (i : Int) (j : Int)) r
  | 0, j, x, hj, h => by
    refine Ev.step (fun k => rfl) ?_
    simp only [impl_SumMore.l1, if_neg (show ¬ (j : Int) < 8 by omega), wr i hi]
    exact h
  | d + 1, j, x, hj, h => by
    refine Ev.step (fun k => rfl) ?_
    have ih := impl_SumMore_l1 s i hi r d (j + 1) (crc1 x) (by omega) h
    simp only [impl_SumMore.l1, if_pos (show (j : Int) < 8 by omega), wr j (by omega)]
    by_cases c : Int.tmod x 2 = 1
    · simp only [if_pos c]
      simpa only [crc1, if_pos c] using ih
    · simp only [if_neg c]
      simpa only [crc1, if_neg c] using ih
theorem impl_SumMore_l0 (s : ByteArray) (hs : s.size ≤ 140737488351232) : ∀ d i x, i + d = s.size → Ev (fun k => impl_SumMore.l0 k x s (i : Int)) (crcB s d i x)
  | 0, i, x, hi => by
    refine Ev.step (fun k => rfl) ?_
    simp only [impl_SumMore.l0, if_neg (show ¬ (i : Int) < (s.size : Int) by omega)]
    exact Ev.now _
  | d + 1, i, x, hi => by
    refine Ev.step (fun k => rfl) ?_
    simp only [impl_SumMore.l0, if_pos (show (i : Int) < (s.size : Int) by omega), if_pos (show (0 : Int) ≤ (i : Int) by omega)]
    exact impl_SumMore_l1 s i (by omega) _ 8 0 _ rfl (impl_SumMore_l0 s hs d (i + 1) _ (by omega))
theorem impl_SumMore_ev (x : Int) (s : ByteArray) (hs : s.size ≤ 140737488351232) : Ev (fun k => impl_SumMore.f k x s) (crcB s s.size 0 x) := impl_SumMore_l0 s hs s.size 0 x (by omega)

theorem impl_SumOf_ev (s : ByteArray) (hs : s.size ≤ 140737488351232) : Ev (fun k => impl_SumOf.f k s) (crcB s s.size 0 4294967295) := by
  unfold impl_SumOf.f
  exact Ev.bind (impl_SumMore_ev _ s hs) (Ev.now _)

theorem and255 (x : Int) (h : 0 ≤ x ∧ x ≤ 4294967295) : (Go.bits .and .i64 x 255) % 256 = x % 256 := by
  have := bits_mask .i64 63 (by decide) (fun n h0 h1 => by rw [IntKind.wrap_i64]; omega) 8 (by decide) x h.1 (by omega)
  have e : Go.bits .and .i64 x 255 = x % 256 := this
  rw [e]; omega
theorem impl_highFirst_ev (x : Int) (h : 0 ≤ x ∧ x ≤ 4294967295) : Ev (fun k => impl_highFirst.f k x 4) (four x) := by
  unfold impl_highFirst.f
  simp only [if_pos (show (0 : Int) ≤ 4 by omega), if_pos (show ((4 : Int)).toNat ≤ 281474976710656 by decide), wi (n := 4 - 1) (by omega)]
  refine Ev.step (fun k => rfl) ?_
  simp only [impl_highFirst.l0, if_pos (show ((4 : Int) - 1) ≥ 0 by omega), List.length_replicate, if_pos (show ((4 : Int) - 1) < ((4 : Int).toNat : Int) by decide), and255 x h, wi (n := 4 - 1 - 1) (by omega)]
  refine Ev.step (fun k => rfl) ?_
  simp only [impl_highFirst.l0, if_pos (show ((4 : Int) - 1 - 1) ≥ 0 by omega), List.length_set, List.length_replicate, if_pos (show ((4 : Int) - 1 - 1) < ((4 : Int).toNat : Int) by decide), and255 (x / 256) (by omega), wi (n := 4 - 1 - 1 - 1) (by omega)]
  refine Ev.step (fun k => rfl) ?_
  simp only [impl_highFirst.l0, if_pos (show ((4 : Int) - 1 - 1 - 1) ≥ 0 by omega), List.length_set, List.length_replicate, if_pos (show ((4 : Int) - 1 - 1 - 1) < ((4 : Int).toNat : Int) by decide), and255 (x / 256 / 256) (by omega), wi (n := 4 - 1 - 1 - 1 - 1) (by omega)]
  refine Ev.step (fun k => rfl) ?_
  simp only [impl_highFirst.l0, if_pos (show ((4 : Int) - 1 - 1 - 1 - 1) ≥ 0 by omega), List.length_set, List.length_replicate, if_pos (show ((4 : Int) - 1 - 1 - 1 - 1) < ((4 : Int).toNat : Int) by decide), and255 (x / 256 / 256 / 256) (by omega), wi (n := 4 - 1 - 1 - 1 - 1 - 1) (by omega)]
  refine Ev.step (fun k => rfl) ?_
  simp only [impl_highFirst.l0, if_neg (show ¬ ((4 : Int) - 1 - 1 - 1 - 1 - 1) ≥ 0 by omega)]
  have e : (((((List.replicate (4 : Int).toNat (0 : Int)).set ((4 : Int) - 1).toNat (x % 256)).set ((4 : Int) - 1 - 1).toNat (x / 256 % 256)).set ((4 : Int) - 1 - 1 - 1).toNat (x / 256 / 256 % 256)).set ((4 : Int) - 1 - 1 - 1 - 1).toNat (x / 256 / 256 / 256 % 256)) = [(x / 16777216) % 256, (x / 65536) % 256, (x / 256) % 256, x % 256] := by
    show [x / 256 / 256 / 256 % 256, x / 256 / 256 % 256, x / 256 % 256, x % 256] = _
    rw [show x / 256 / 256 / 256 = x / 16777216 by omega, show x / 256 / 256 = x / 65536 by omega]
  rw [e]
  exact Ev.now _

theorem impl_Sealed_ev (s : ByteArray) (hs : s.size ≤ 140737488351232) : Ev (fun k => impl_Sealed.f k s) (sealT s) := by
  unfold impl_Sealed.f sealT
  by_cases c : (s.size : Int) > 20000
  · simp only [if_pos c]; exact Ev.now _
  · simp only [if_neg c]
    have hr := sumB_range s
    refine Ev.bind (impl_SumOf_ev s hs) ?_
    have e : wrap64 (crcB s s.size 0 4294967295) = sumB s := wi (by unfold sumB at hr; omega)
    simp only [e]
    refine Ev.bind (impl_highFirst_ev _ hr) ?_
    simp only [four_size, if_pos (show s.size + 4 ≤ 9223372036854775807 by omega)]
    exact Ev.now _

theorem impl_Unsealed_ev (s : ByteArray) (hs : s.size ≤ 140737488351232) : Ev (fun k => impl_Unsealed.f k s) (unsealT s) := by
  unfold impl_Unsealed.f unsealT
  rw [wi (n := (s.size : Int) - 4) (by omega)]
  by_cases c : (s.size : Int) - 4 < 0
  · simp only [if_pos c]; exact Ev.now _
  have e : ((s.size : Int) - 4).toNat = s.size - 4 := by omega
  have z := ext_size s (s.size - 4) (by omega)
  simp only [if_neg c, if_pos (show (0 : Int) ≤ (s.size : Int) - 4 by omega), if_pos (show (s.size : Int) - 4 ≤ (s.size : Int) by omega), e]
  refine Ev.bind (impl_Sealed_ev _ (by rw [z]; omega)) ?_
  by_cases c2 : (s.size : Int) - 4 > 20000
  · have e2 : sealT (s.extract 0 (s.size - 4)) = ((⟨#[]⟩ : ByteArray), false) := by unfold sealT; rw [z, if_pos (by omega)]
    simp only [e2, if_pos c2, Bool.false_eq_true, if_false]; exact Ev.now _
  · have e2 : sealT (s.extract 0 (s.size - 4)) = (s.extract 0 (s.size - 4) ++ four (sumB (s.extract 0 (s.size - 4))), true) := by unfold sealT; rw [z, if_neg (by omega)]
    simp only [e2, if_neg c2, if_true]
    by_cases c3 : (s.extract (s.size - 4) s.size).toList = (four (sumB (s.extract 0 (s.size - 4)))).toList
    · simp only [if_pos ((unseal_iff s _ _).2 c3), if_pos c3]; exact Ev.now _
    · simp only [if_neg (fun h => c3 ((unseal_iff s _ _).1 h)), if_neg c3]; exact Ev.now _

theorem FnExactUnsealed : laws_FnExactUnsealed.Pure := by
  intro s hs
  refine Ev.rounds ?_
  unfold laws_FnExactUnsealed.f
  by_cases h : (s.size : Int) > 1048576
  · simp only [if_pos h]; exact Ev.now _
  · simp only [if_neg h]
    refine Ev.bind (spec_Unsealed_ev s hs) (Ev.bind (impl_Unsealed_ev s hs) ?_)
    simp only [if_true, bne_self_eq_false, Bool.false_eq_true, if_false]
    exact Ev.now _

end Go.Proofs.Ytfaiggdikdndnaa.Pure
