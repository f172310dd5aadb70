/- Of every list of bytes that is drawn from, the law on sealed texts answers true.
No condition beyond those of the given row. -/
import Derived.Test.YtmohbiagcbfkpaaQDrawx0
import Derived.Test.YtmohbiagcbfkpaaQDrawx3
import Derived.Test.YtmohbiagcbfkpaaQDrawx13
import Derived.Test.YtmohbiagcbfkpaaQDrawx14
import Derived.Test.YtmohbiagcbfkpaaStFnTurned
import Derived.Test.YtmohbiagcbfkpaaPlain
namespace Go.Proofs.Ytmohbiagcbfkpaa.Pure
open Go.RowKit Go.Proofs.Ytmohbiagcbfkpaa.QDraw Go.Proofs.Ytmohbiagcbfkpaa.Plain Go.Proofs.YtmohbiagcbfkpaaW.PrintWords Go.Proofs.YtmohbiagcbfkpaaW.PrintLast Go.Proofs.YtmohbiagcbfkpaaW.PrintMore
set_option linter.unusedSimpArgs false
set_option linter.unusedVariables false

/-- One step of the sum, told as the program has it. -/
def crc1 (x : Int) : Int := if Int.tmod x 2 = 1 then Go.bits .xor .u32 ((Int.tdiv x 2) % 4294967296) 3558460437 else (Int.tdiv x 2) % 4294967296
def crcN : Nat → Int → Int
  | 0, x => x
  | n + 1, x => crcN n (crc1 x)
/-- The sum behind d bytes from byte i on. -/
def crcB (s : ByteArray) : Nat → Nat → Int → Int
  | 0, _, x => x
  | d + 1, i, x => crcB s d (i + 1) (crcN 8 (Go.bits .xor .u32 x ((bt s (i : Int)) % 4294967296)))

/-- A sum in four bytes, the highest first. -/
def four (x : Int) : ByteArray := strOfNums [(x / 16777216) % 256, (x / 65536) % 256, (x / 256) % 256, x % 256]
theorem four_size (x : Int) : (four x).size = 4 := by unfold four; rw [strOfNums_size]; rfl
theorem bits_range (b : BinOp) (x y : Int) (h : ∃ v : Nat, Go.bits b .u32 x y = IntKind.u32.wrap v) : 0 ≤ Go.bits b .u32 x y ∧ Go.bits b .u32 x y ≤ 4294967295 := by
  obtain ⟨v, hv⟩ := h
  rw [hv, IntKind.wrap_u32]; omega
theorem xor_range (x y : Int) : 0 ≤ Go.bits .xor .u32 x y ∧ Go.bits .xor .u32 x y ≤ 4294967295 := bits_range _ _ _ ⟨_, rfl⟩
theorem crc1_range (x : Int) : 0 ≤ crc1 x ∧ crc1 x ≤ 4294967295 := by
  unfold crc1
  split
  · exact xor_range _ _
  · omega
theorem crcN_range : ∀ (n : Nat) (x : Int), 0 ≤ x ∧ x ≤ 4294967295 → 0 ≤ crcN n x ∧ crcN n x ≤ 4294967295
  | 0, _, h => h
  | n + 1, x, _ => crcN_range n _ (crc1_range x)
theorem crcB_range (s : ByteArray) : ∀ (d i : Nat) (x : Int), 0 ≤ x ∧ x ≤ 4294967295 → 0 ≤ crcB s d i x ∧ crcB s d i x ≤ 4294967295
  | 0, _, _, h => h
  | d + 1, i, _, _ => crcB_range s d (i + 1) _ (crcN_range 8 _ (xor_range _ _))
/-- The sum of a text. -/
def sumB (s : ByteArray) : Int := crcB s s.size 0 4294967295
theorem sumB_range (s : ByteArray) : 0 ≤ sumB s ∧ sumB s ≤ 4294967295 := crcB_range s _ _ _ (by omega)
def sealT (s : ByteArray) : ByteArray × Bool := if (s.size : Int) > 20000 then ((⟨#[]⟩ : ByteArray), false) else (s ++ four (sumB s), true)

theorem toL (s : ByteArray) : s.toList = s.data.toList := ByteArray.toList_eq s
theorem ext_eq {a b : ByteArray} (h : a.toList = b.toList) : a = b := by
  rw [toL, toL] at h
  cases a; cases b; simp at h; rw [h]
theorem len_toL (s : ByteArray) : s.toList.length = s.size := by rw [toL, Array.length_toList]; rfl
theorem app_toL (a b : ByteArray) : (a ++ b).toList = a.toList ++ b.toList := by
  simp only [toL]; simp
theorem ext_toL (s : ByteArray) (a b : Nat) : (s.extract a b).toList = (s.toList.drop a).take (b - a) := by
  rw [toL, toL]; simp

/-- The text that a sealed text holds. -/
def unsealT (s : ByteArray) : ByteArray × Bool :=
  if (s.size : Int) - 4 < 0 then ((⟨#[]⟩ : ByteArray), false) else if (s.size : Int) - 4 > 20000 then ((⟨#[]⟩ : ByteArray), false) else
    if (s.extract (s.size - 4) s.size).toList = (four (sumB (s.extract 0 (s.size - 4)))).toList then (s.extract 0 (s.size - 4), true) else ((⟨#[]⟩ : ByteArray), false)
theorem unseal_iff (s : ByteArray) (n : Nat) (f : ByteArray) : (s.extract 0 n ++ f).toList = s.toList ↔ (s.extract n s.size).toList = f.toList := by
  rw [app_toL, ext_toL, ext_toL]
  simp only [List.drop_zero, Nat.sub_zero]
  have e : (s.toList.drop n).take (s.size - n) = s.toList.drop n := List.take_of_length_le (by rw [List.length_drop, len_toL]; omega)
  rw [e]
  constructor
  · intro h1
    have h2 : s.toList.take n ++ f.toList = s.toList.take n ++ s.toList.drop n := by rw [h1, List.take_append_drop]
    exact (List.append_cancel_left h2).symm
  · intro h1
    rw [← h1, List.take_append_drop]
theorem ext_size (s : ByteArray) (n : Nat) (h : n ≤ s.size) : (s.extract 0 n).size = n := by simp; omega

theorem x32 {x y : Int} (hx : 0 ≤ x ∧ x ≤ 4294967295) (hy : 0 ≤ y ∧ y ≤ 4294967295) : Go.bits .xor .u32 x y = ((x.toNat ^^^ y.toNat : Nat) : Int) := u32_xor x y hx.1 (by omega) hy.1 (by omega)
theorem xor_cancel {a b c : Nat} (h : a ^^^ c = b ^^^ c) : a = b := by
  have := congrArg (fun z => z ^^^ c) h
  simpa [Nat.xor_assoc] using this
theorem xor_cancel' {a b c : Nat} (h : c ^^^ a = c ^^^ b) : a = b := xor_cancel (c := c) (by rw [Nat.xor_comm a c, Nat.xor_comm b c]; exact h)
theorem x32_inj {x y z : Int} (hx : 0 ≤ x ∧ x ≤ 4294967295) (hy : 0 ≤ y ∧ y ≤ 4294967295) (hz : 0 ≤ z ∧ z ≤ 4294967295) (h : Go.bits .xor .u32 x z = Go.bits .xor .u32 y z) : x = y := by
  rw [x32 hx hz, x32 hy hz] at h
  have := xor_cancel (Int.ofNat.inj h)
  omega
theorem x32_inj' {x y z : Int} (hx : 0 ≤ x ∧ x ≤ 4294967295) (hy : 0 ≤ y ∧ y ≤ 4294967295) (hz : 0 ≤ z ∧ z ≤ 4294967295) (h : Go.bits .xor .u32 z x = Go.bits .xor .u32 z y) : x = y := by
  rw [x32 hz hx, x32 hz hy] at h
  have := xor_cancel' (Int.ofNat.inj h)
  omega
/-- What is put onto the polynomial has its top bit set. -/
theorem top_set (a : Nat) (h : a < 2147483648) : 2147483648 ≤ a ^^^ 3558460437 := by
  have h1 : (a ^^^ 3558460437).testBit 31 = true := by
    rw [Nat.testBit_xor, Nat.testBit_lt_two_pow (show a < 2 ^ 31 by omega)]
    decide
  have := Nat.ge_two_pow_of_testBit h1
  omega
theorem crc1_inj {x y : Int} (hx : 0 ≤ x ∧ x ≤ 4294967295) (hy : 0 ≤ y ∧ y ≤ 4294967295) (h : crc1 x = crc1 y) : x = y := by
  have tdx : Int.tdiv x 2 % 4294967296 = x / 2 := by rw [Int.tdiv_eq_ediv_of_nonneg hx.1]; omega
  have tdy : Int.tdiv y 2 % 4294967296 = y / 2 := by rw [Int.tdiv_eq_ediv_of_nonneg hy.1]; omega
  have P : (0 : Int) ≤ 3558460437 ∧ (3558460437 : Int) ≤ 4294967295 := by omega
  unfold crc1 at h
  rw [tdx, tdy, Int.tmod_eq_emod_of_nonneg hx.1, Int.tmod_eq_emod_of_nonneg hy.1] at h
  by_cases cx : x % 2 = 1
  · rw [if_pos cx] at h
    by_cases cy : y % 2 = 1
    · rw [if_pos cy] at h
      have := x32_inj (by omega) (by omega) P h
      omega
    · rw [if_neg cy, x32 (by omega) P] at h
      have := top_set (x / 2).toNat (by omega)
      rw [show (3558460437 : Int).toNat = 3558460437 from rfl] at h
      omega
  · rw [if_neg cx] at h
    by_cases cy : y % 2 = 1
    · rw [if_pos cy, x32 (by omega) P] at h
      have := top_set (y / 2).toNat (by omega)
      rw [show (3558460437 : Int).toNat = 3558460437 from rfl] at h
      omega
    · rw [if_neg cy] at h
      omega
theorem crcN_inj : ∀ (n : Nat) {x y : Int}, 0 ≤ x ∧ x ≤ 4294967295 → 0 ≤ y ∧ y ≤ 4294967295 → crcN n x = crcN n y → x = y
  | 0, _, _, _, _, h => h
  | n + 1, x, y, hx, hy, h => crc1_inj hx hy (crcN_inj n (crc1_range x) (crc1_range y) h)
theorem bt_small (s : ByteArray) (i : Int) : 0 ≤ bt s i % 4294967296 ∧ bt s i % 4294967296 ≤ 4294967295 := by omega
theorem bt_mod (s : ByteArray) (i : Int) : bt s i % 4294967296 = bt s i := by have := bt_range s i; omega
theorem crcB_ne (s t : ByteArray) : ∀ (d k : Nat) (x y : Int), 0 ≤ x ∧ x ≤ 4294967295 → 0 ≤ y ∧ y ≤ 4294967295 → (∀ j : Nat, k ≤ j → j < k + d → bt s j = bt t j) → x ≠ y → crcB s d k x ≠ crcB t d k y
  | 0, _, _, _, _, _, _, h => h
  | d + 1, k, x, y, hx, hy, he, h => by
    unfold crcB
    refine crcB_ne s t d (k + 1) _ _ (crcN_range 8 _ (xor_range _ _)) (crcN_range 8 _ (xor_range _ _)) (fun j h1 h2 => he j (by omega) (by omega)) (fun h2 => h ?_)
    have h3 := crcN_inj 8 (xor_range _ _) (xor_range _ _) h2
    rw [he k (by omega) (by omega)] at h3
    exact x32_inj hx hy (bt_small t k) h3
theorem crcB_diff (s t : ByteArray) (i : Nat) : ∀ (d k : Nat) (x : Int), 0 ≤ x ∧ x ≤ 4294967295 → k ≤ i → i < k + d → (∀ j : Nat, k ≤ j → j < k + d → j ≠ i → bt s j = bt t j) → bt s i ≠ bt t i → crcB s d k x ≠ crcB t d k x
  | 0, k, _, _, h1, h2, _, _ => by omega
  | d + 1, k, x, hx, h1, h2, he, hd => by
    unfold crcB
    by_cases c : k = i
    · subst c
      refine crcB_ne s t d (k + 1) _ _ (crcN_range 8 _ (xor_range _ _)) (crcN_range 8 _ (xor_range _ _)) (fun j g1 g2 => he j (by omega) (by omega) (by omega)) (fun h3 => hd ?_)
      have h4 := crcN_inj 8 (xor_range _ _) (xor_range _ _) h3
      have := x32_inj' (bt_small s k) (bt_small t k) hx h4
      rwa [bt_mod, bt_mod] at this
    · rw [he k (by omega) (by omega) c]
      exact crcB_diff s t i d (k + 1) _ (crcN_range 8 _ (xor_range _ _)) (by omega) (by omega) (fun j g1 g2 => he j (by omega) (by omega)) hd
theorem crcB_congr (s t : ByteArray) : ∀ (d k : Nat) (x : Int), (∀ j : Nat, k ≤ j → j < k + d → bt s j = bt t j) → crcB s d k x = crcB t d k x
  | 0, _, _, _ => rfl
  | d + 1, k, x, he => by
    unfold crcB
    rw [he k (by omega) (by omega)]
    exact crcB_congr s t d (k + 1) _ (fun j g1 g2 => he j (by omega) (by omega))
theorem crcB_split (s : ByteArray) : ∀ (d e k : Nat) (x : Int), crcB s (d + e) k x = crcB s e (k + d) (crcB s d k x)
  | 0, e, k, x => by rw [Nat.zero_add]; rfl
  | d + 1, e, k, x => by
    rw [show d + 1 + e = (d + e) + 1 by omega]
    show crcB s (d + e) (k + 1) _ = crcB s e (k + (d + 1)) (crcB s d (k + 1) _)
    rw [crcB_split s d e (k + 1), show k + 1 + d = k + (d + 1) by omega]
theorem bt_toL (s : ByteArray) (j : Nat) : bt s (j : Int) = ((s.toList.getD j 0).toNat : Int) := by
  unfold bt
  rw [toL, List.getD_eq_getElem?_getD]
  by_cases h : j < s.size
  · have h' : j < s.data.toList.length := by rw [Array.length_toList]; exact h
    rw [dif_pos (show (j : Int).toNat < s.size by omega), List.getElem?_eq_getElem h']
    simp [ByteArray.getElem_eq_getElem_data]
  · have h' : s.data.toList.length ≤ j := by rw [Array.length_toList]; exact Nat.le_of_not_lt h
    rw [dif_neg (show ¬ (j : Int).toNat < s.size by omega), List.getElem?_eq_none h']
    rfl
theorem bt_left (a b : ByteArray) (j : Nat) (h : j < a.size) : bt (a ++ b) (j : Int) = bt a (j : Int) := by
  rw [bt_toL, bt_toL, app_toL, List.getD_eq_getElem?_getD, List.getD_eq_getElem?_getD, List.getElem?_append_left (by rw [len_toL]; exact h)]
theorem bt_right (a b : ByteArray) (j : Nat) : bt (a ++ b) ((a.size + j : Nat) : Int) = bt b (j : Int) := by
  rw [bt_toL, bt_toL, app_toL, List.getD_eq_getElem?_getD, List.getD_eq_getElem?_getD, List.getElem?_append_right (by rw [len_toL]; omega), len_toL, show a.size + j - a.size = j by omega]
theorem bt_ext (s : ByteArray) (a b j : Nat) (h : j < b - a) : bt (s.extract a b) (j : Int) = bt s ((a + j : Nat) : Int) := by
  rw [bt_toL, bt_toL, ext_toL, List.getD_eq_getElem?_getD, List.getD_eq_getElem?_getD, List.getElem?_take_of_lt h, List.getElem?_drop]
theorem bt_nums (l : List Int) (j : Nat) (h : j < l.length) (hr : ∀ x ∈ l, 0 ≤ x ∧ x ≤ 255) : bt (strOfNums l) (j : Int) = l.getD j 0 := by
  have hx := hr l[j] (List.getElem_mem h)
  rw [bt_toL, toL, List.getD_eq_getElem?_getD, List.getD_eq_getElem?_getD, List.getElem?_eq_getElem h]
  simp [strOfNums, h]
  omega
theorem four_bt (x : Int) (j : Nat) (h : j < 4) : bt (four x) (j : Int) = [(x / 16777216) % 256, (x / 65536) % 256, (x / 256) % 256, x % 256].getD j 0 := by
  unfold four
  refine bt_nums _ j h (fun y hy => ?_)
  simp at hy
  omega
theorem four_inj {x y : Int} (hx : 0 ≤ x ∧ x ≤ 4294967295) (hy : 0 ≤ y ∧ y ≤ 4294967295) (h : ∀ j : Nat, j < 4 → bt (four x) j = bt (four y) j) : x = y := by
  have h0 := h 0 (by omega)
  have h1 := h 1 (by omega)
  have h2 := h 2 (by omega)
  have h3 := h 3 (by omega)
  rw [four_bt x _ (by omega), four_bt y _ (by omega)] at h0 h1 h2 h3
  simp at h0 h1 h2 h3
  omega
/-- A sealed text of which one byte is another one does not open. -/
theorem turned (s : ByteArray) (hs : s.size ≤ 20000) (i : Nat) (hi : i < s.size + 4) (v : Int) (hv : 0 ≤ v ∧ v ≤ 255) (hne : v ≠ bt (s ++ four (sumB s)) i) : (unsealT (strOfNums ((bytesOf (s ++ four (sumB s))).set i v))).2 = false := by
  have hT : (s ++ four (sumB s)).size = s.size + 4 := by rw [ByteArray.size_append, four_size]
  generalize hB : (bytesOf (s ++ four (sumB s))).set i v = B
  have hl : B.length = s.size + 4 := by rw [← hB, List.length_set, bytesOf_length, hT]
  have hr : ∀ x ∈ B, 0 ≤ x ∧ x ≤ 255 := by
    intro x hx
    rw [← hB] at hx
    rcases List.mem_or_eq_of_mem_set hx with h | h
    · unfold bytesOf at h
      obtain ⟨b, _, rfl⟩ := List.mem_map.1 h
      have := UInt8.toNat_lt b
      omega
    · rw [h]; exact hv
  have hz : (strOfNums B).size = s.size + 4 := by rw [strOfNums_size, hl]
  have hb : ∀ j : Nat, j < s.size + 4 → bt (strOfNums B) (j : Int) = if j = i then v else bt (s ++ four (sumB s)) (j : Int) := by
    intro j hj
    rw [bt_nums B j (by omega) hr, ← hB, List.getD_eq_getElem?_getD]
    by_cases c : j = i
    · subst c
      rw [if_pos rfl, List.getElem?_set_self (by rw [bytesOf_length, hT]; exact hj)]
      rfl
    · rw [if_neg c, List.getElem?_set_ne (Ne.symm c), ← rd_bytesOf, rd, Int.toNat_natCast, List.getD_eq_getElem?_getD]
  generalize hS : strOfNums B = S at hz hb
  have e4 : S.size - 4 = s.size := by omega
  unfold unsealT
  rw [if_neg (by omega), if_neg (by omega), e4]
  by_cases c : (S.extract s.size S.size).toList = (four (sumB (S.extract 0 s.size))).toList
  · exfalso
    have hx : S.extract s.size S.size = four (sumB (S.extract 0 s.size)) := ext_eq c
    have hf : ∀ j : Nat, j < 4 → bt S ((s.size + j : Nat) : Int) = bt (four (sumB (S.extract 0 s.size))) (j : Int) := by
      intro j hj
      rw [← hx, bt_ext S s.size S.size j (by omega)]
    have hsz : (S.extract 0 s.size).size = s.size := ext_size S s.size (by omega)
    have hj0 : ∀ j : Nat, j < s.size → bt (S.extract 0 s.size) (j : Int) = bt S (j : Int) := by
      intro j hj
      rw [bt_ext S 0 s.size j (by omega), Nat.zero_add]
    by_cases ci : i < s.size
    · have he : sumB s = sumB (S.extract 0 s.size) := by
        refine four_inj (sumB_range _) (sumB_range _) (fun j hj => ?_)
        rw [← hf j hj, hb _ (by omega), if_neg (by omega), bt_right]
      have hd : sumB (S.extract 0 s.size) ≠ sumB s := by
        unfold sumB
        rw [hsz]
        refine crcB_diff _ _ i s.size 0 _ (by omega) (by omega) (by omega) (fun j _ h2 h3 => ?_) ?_
        · rw [hj0 j (by omega), hb j (by omega), if_neg h3, bt_left _ _ _ (by omega)]
        · rw [hj0 i ci, hb i hi, if_pos rfl]
          rwa [bt_left _ _ _ ci] at hne
      exact hd he.symm
    · have he : sumB (S.extract 0 s.size) = sumB s := by
        unfold sumB
        rw [hsz]
        refine crcB_congr _ _ _ _ _ (fun j _ h2 => ?_)
        rw [hj0 j (by omega), hb j (by omega), if_neg (by omega), bt_left _ _ _ (by omega)]
      have h1 := hf (i - s.size) (by omega)
      rw [show s.size + (i - s.size) = i by omega, hb i hi, if_pos rfl, he] at h1
      apply hne
      rw [h1, ← bt_right s, show s.size + (i - s.size) = i by omega]
  · rw [if_neg c]
theorem unseal_seal (s : ByteArray) (hs : s.size ≤ 20000) : unsealT (s ++ four (sumB s)) = (s, true) := by
  have hT : (s ++ four (sumB s)).size = s.size + 4 := by rw [ByteArray.size_append, four_size]
  have h1 : (s ++ four (sumB s)).extract 0 s.size = s := by
    apply ext_eq
    rw [ext_toL, app_toL, List.drop_zero, Nat.sub_zero, List.take_append_of_le_length (by rw [len_toL]; exact Nat.le_refl _), List.take_of_length_le (by rw [len_toL]; exact Nat.le_refl _)]
  have h2 : ((s ++ four (sumB s)).extract s.size (s.size + 4)).toList = (four (sumB s)).toList := by
    rw [ext_toL, app_toL, List.drop_append_of_le_length (by rw [len_toL]; exact Nat.le_refl _), List.drop_eq_nil_of_le (by rw [len_toL]; exact Nat.le_refl _), List.nil_append, List.take_of_length_le (by rw [len_toL, four_size]; omega)]
  unfold unsealT
  rw [hT, show s.size + 4 - 4 = s.size by omega, h1, if_neg (by omega), if_neg (by omega), if_pos h2]

/-- A drawn number's state: where the bytes are read, and what was made of them. -/
def At (l : List Int) (p : Int) : Prop := 0 ≤ p ∧ p ≤ (l.length : Int)
theorem mask255 (n : Int) : Go.bits .and .i64 n 255 = n % 256 := by
  have h : (BitVec.ofInt 64 255).toNat = 2 ^ 8 - 1 := by decide
  have key : (BitVec.ofInt 64 n &&& BitVec.ofInt 64 255).toNat = (n % ((2 ^ 64 : Nat) : Int)).toNat % 2 ^ 8 := by
    rw [BitVec.toNat_and, BitVec.toNat_ofInt, h, Nat.and_two_pow_sub_one_eq_mod]
  show IntKind.i64.wrap ((BitVec.ofInt 64 n &&& BitVec.ofInt 64 255).toNat : Nat) = n % 256
  rw [key, IntKind.wrap_i64]
  omega
theorem new_l0 (l : List Int) (hl : l.length ≤ 1048576) : ∀ (d i : Nat) (x : Int), i + d = l.length → ∃ y, Ev (fun k => spec_l01New.l0 k l x (i : Int)) (l, 0, y)
  | 0, i, x, hi => ⟨x, by
    refine Ev.step (fun k => rfl) ?_
    simp only [spec_l01New.l0, if_neg (show ¬ (i : Int) < (l.length : Int) by omega)]
    exact Ev.now _⟩
  | d + 1, i, x, hi => by
    by_cases c : (i : Int) < 4000
    · obtain ⟨y, hy⟩ := new_l0 l hl d (i + 1) (Go.bits .and .i64 (wrap64 ((wrap64 ((wrap64 (x * 131)) + (wrap64 (rd l (i : Int))))) + 7)) 1073741823) (by omega)
      refine ⟨y, Ev.step (fun k => rfl) ?_⟩
      simp only [spec_l01New.l0, if_pos (show (i : Int) < (l.length : Int) by omega), if_pos c, if_pos (show (0 : Int) ≤ (i : Int) by omega), wr i (by omega)]
      exact hy
    · refine ⟨x, Ev.step (fun k => rfl) ?_⟩
      simp only [spec_l01New.l0, if_pos (show (i : Int) < (l.length : Int) by omega), if_neg c]
      exact Ev.now _
theorem new_ex (l : List Int) (hl : l.length ≤ 1048576) : ∃ y, Ev (fun k => spec_l01New.f k l) (l, 0, y) := new_l0 l hl l.length 0 _ (by omega)
theorem byte_ex (l : List Int) (hl : l.length ≤ 1048576) (p x : Int) (hp : At l p) : ∃ b q y, spec_l01Byte.f l p x = some (b, q, y) ∧ 0 ≤ b ∧ b ≤ 255 ∧ At l q := by
  unfold spec_l01Byte.f
  unfold At at hp ⊢
  by_cases c : p < (l.length : Int)
  · simp only [if_pos c, if_pos hp.1, mask255, wi (n := p + 1) (by omega)]
    exact ⟨_, _, _, rfl, by omega, by omega, by omega, by omega⟩
  · simp only [if_neg c, mask255]
    exact ⟨_, _, _, rfl, by omega, by omega, hp⟩
theorem tmod_lt {v n : Int} (hv : 0 ≤ v) (hn : 0 < n) : 0 ≤ Int.tmod v n ∧ Int.tmod v n < n := by
  rw [Int.tmod_eq_emod_of_nonneg hv]
  exact ⟨Int.emod_nonneg _ (by omega), Int.emod_lt_of_pos _ hn⟩
theorem below_ex (l : List Int) (hl : l.length ≤ 1048576) (p x n : Int) (hp : At l p) : ∃ b q y, spec_l01Below.f l p x n = some (b, q, y) ∧ 0 ≤ b ∧ (0 < n → b < n) ∧ (n ≤ 0 → b = 0) ∧ At l q := by
  unfold spec_l01Below.f
  by_cases c : n ≤ 0
  · simp only [if_pos c]
    exact ⟨_, _, _, rfl, by omega, by omega, fun _ => rfl, hp⟩
  · simp only [if_neg c]
    by_cases c2 : n ≤ 256
    · obtain ⟨b, q, y, h, h0, h1, h2⟩ := byte_ex l hl p x hp
      simp only [if_pos c2, h, Option.bind_some, if_neg (show ¬ n = 0 by omega)]
      have := tmod_lt h0 (show 0 < n by omega)
      exact ⟨_, _, _, rfl, this.1, fun _ => this.2, by omega, h2⟩
    · obtain ⟨b1, q1, y1, e1, g1, k1, p1⟩ := byte_ex l hl p x hp
      obtain ⟨b2, q2, y2, e2, g2, k2, p2⟩ := byte_ex l hl q1 y1 p1
      obtain ⟨b3, q3, y3, e3, g3, k3, p3⟩ := byte_ex l hl q2 y2 p2
      obtain ⟨b4, q4, y4, e4, g4, k4, p4⟩ := byte_ex l hl q3 y3 p3
      simp only [if_neg c2, e1, e2, e3, e4, Option.bind_some, if_neg (show ¬ n = 0 by omega)]
      have := tmod_lt (v := wrap64 ((wrap64 ((wrap64 ((wrap64 (b1 * 16777216)) + (wrap64 (b2 * 65536)))) + (wrap64 (b3 * 256)))) + b4)) (by unfold wrap64; omega) (show 0 < n by omega)
      exact ⟨_, _, _, rfl, this.1, fun _ => this.2, by omega, p4⟩

theorem text_l0 (l : List Int) (hl : l.length ≤ 1048576) (n : Int) (hn : n ≤ 5000) : ∀ (d i : Nat) (out : List Int) (p x : Int), (i : Int) + d = n → out.length = i → At l p → ∃ s q y, Ev (fun k => spec_l01Text.l0 k n out (i : Int) l p x) (s, q, y) ∧ (s.size : Int) = n ∧ At l q
  | 0, i, out, p, x, hi, ho, hp => ⟨strOfNums out, p, x, by
    refine Ev.step (fun k => rfl) ?_
    simp only [spec_l01Text.l0, if_neg (show ¬ (i : Int) < n by omega)]
    exact Ev.now _, by rw [strOfNums_size]; omega, hp⟩
  | d + 1, i, out, p, x, hi, ho, hp => by
    obtain ⟨b, q, y, e, _, _, h2⟩ := byte_ex l hl p x hp
    obtain ⟨s, q2, y2, e2, hs, hq⟩ := text_l0 l hl n hn d (i + 1) (out ++ [b % 256]) q y (by omega) (by rw [List.length_append, ho]; rfl) h2
    refine ⟨s, q2, y2, Ev.step (fun k => rfl) ?_, hs, hq⟩
    simp only [spec_l01Text.l0, if_pos (show (i : Int) < n by omega), e, Option.bind_some, if_pos (show out.length < 140737488355328 by omega), wr i (by omega)]
    exact e2
theorem text_ex (l : List Int) (hl : l.length ≤ 1048576) (p x n : Int) (hp : At l p) (hn : 0 ≤ n ∧ n ≤ 5000) : ∃ s q y, Ev (fun k => spec_l01Text.f k l p x n) (s, q, y) ∧ (s.size : Int) = n ∧ At l q := by
  obtain ⟨s, q, y, e, hs, hq⟩ := text_l0 l hl n hn.2 n.toNat 0 [] p x (by omega) rfl hp
  refine ⟨s, q, y, ?_, hs, hq⟩
  unfold spec_l01Text.f
  simp only [if_neg (show ¬ n > 5000 by omega)]
  refine Ev.step (fun k => rfl) ?_
  simp only [spec_l01Text.j0]
  exact e

theorem places_l0 (l : List Int) (hl : l.length ≤ 1048576) : ∀ (d i : Nat) (out : List Int) (p x : Int), i + d = 12 → out.length = i → (∀ v ∈ out, 0 ≤ v ∧ v < 10000) → At l p → ∃ r, Ev (fun k => spec_DrawPlaces.l0 k out (i : Int) l p x) r ∧ r.length = 12 ∧ ∀ v ∈ r, 0 ≤ v ∧ v < 10000
  | 0, i, out, p, x, hi, ho, hv, hp => ⟨out, by
    refine Ev.step (fun k => rfl) ?_
    simp only [spec_DrawPlaces.l0, if_neg (show ¬ (i : Int) < 12 by omega)]
    exact Ev.now _, by omega, hv⟩
  | d + 1, i, out, p, x, hi, ho, hv, hp => by
    obtain ⟨b, q, y, e, g, k, _, p1⟩ := below_ex l hl p x 10000 hp
    have hk := k (by omega)
    obtain ⟨r, er, h⟩ := places_l0 l hl d (i + 1) (out ++ [b]) q y (by omega) (by rw [List.length_append, ho]; rfl) (by
      intro v hm
      rcases List.mem_append.1 hm with h | h
      · exact hv v h
      · rw [List.mem_singleton.1 h]; exact ⟨g, hk⟩) p1
    refine ⟨r, Ev.step (fun k => rfl) ?_, h⟩
    simp only [spec_DrawPlaces.l0, if_pos (show (i : Int) < 12 by omega), e, Option.bind_some, if_pos (show out.length < 17592186044416 by omega), wr i (by omega)]
    exact er
theorem places_ex (l : List Int) (hl : l.length ≤ 1048576) : ∃ r, Ev (fun k => spec_DrawPlaces.f k l) r ∧ r.length = 12 ∧ ∀ v ∈ r, 0 ≤ v ∧ v < 10000 := by
  obtain ⟨y, e⟩ := new_ex l hl
  obtain ⟨b, q, z, e1, _, _, p1⟩ := byte_ex l hl 0 y ⟨by omega, by omega⟩
  obtain ⟨r, er, h⟩ := places_l0 l hl 12 0 [] q z (by omega) rfl (by simp) p1
  refine ⟨r, ?_, h⟩
  unfold spec_DrawPlaces.f
  refine Ev.bind e ?_
  simp only [e1, Option.bind_some]
  exact er

theorem impl_SumMore_l1 (s : ByteArray) (i : Nat) (hi : i < 4611686018427387904) (r : Int) : ∀ (d j : Nat) (x : Int), j + d = 8 → Ev (fun k => impl_SumMore.l0 k (crcN d x) s ((i + 1 : Nat) : Int)) r → Ev (fun k => impl_SumMore.l1 k x s (i : Int) (j : Int)) r
  | 0, j, x, hj, h => by
    refine Ev.step (fun k => rfl) ?_
    simp only [impl_SumMore.l1, if_neg (show ¬ (j : Int) < 8 by omega), wr i hi]
    exact h
  | d + 1, j, x, hj, h => by
    refine Ev.step (fun k => rfl) ?_
    have ih := impl_SumMore_l1 s i hi r d (j + 1) (crc1 x) (by omega) h
    simp only [impl_SumMore.l1, if_pos (show (j : Int) < 8 by omega), wr j (by omega)]
    by_cases c : Int.tmod x 2 = 1
    · simp only [if_pos c]
      simpa only [crc1, if_pos c] using ih
    · simp only [if_neg c]
      simpa only [crc1, if_neg c] using ih
theorem impl_SumMore_l0 (s : ByteArray) (hs : s.size ≤ 140737488351232) : ∀ d i x, i + d = s.size → Ev (fun k => impl_SumMore.l0 k x s (i : Int)) (crcB s d i x)
  | 0, i, x, hi => by
    refine Ev.step (fun k => rfl) ?_
    simp only [impl_SumMore.l0, if_neg (show ¬ (i : Int) < (s.size : Int) by omega)]
    exact Ev.now _
  | d + 1, i, x, hi => by
    refine Ev.step (fun k => rfl) ?_
    simp only [impl_SumMore.l0, if_pos (show (i : Int) < (s.size : Int) by omega), if_pos (show (0 : Int) ≤ (i : Int) by omega)]
    exact impl_SumMore_l1 s i (by omega) _ 8 0 _ rfl (impl_SumMore_l0 s hs d (i + 1) _ (by omega))
theorem impl_SumMore_ev (x : Int) (s : ByteArray) (hs : s.size ≤ 140737488351232) : Ev (fun k => impl_SumMore.f k x s) (crcB s s.size 0 x) := impl_SumMore_l0 s hs s.size 0 x (by omega)

theorem impl_SumOf_ev (s : ByteArray) (hs : s.size ≤ 140737488351232) : Ev (fun k => impl_SumOf.f k s) (crcB s s.size 0 4294967295) := by
  unfold impl_SumOf.f
  exact Ev.bind (impl_SumMore_ev _ s hs) (Ev.now _)

theorem and255 (x : Int) (h : 0 ≤ x ∧ x ≤ 4294967295) : (Go.bits .and .i64 x 255) % 256 = x % 256 := by
  have := bits_mask .i64 63 (by decide) (fun n h0 h1 => by rw [IntKind.wrap_i64]; omega) 8 (by decide) x h.1 (by omega)
  have e : Go.bits .and .i64 x 255 = x % 256 := this
  rw [e]; omega
theorem impl_highFirst_ev (x : Int) (h : 0 ≤ x ∧ x ≤ 4294967295) : Ev (fun k => impl_highFirst.f k x 4) (four x) := by
  unfold impl_highFirst.f
  simp only [if_pos (show (0 : Int) ≤ 4 by omega), if_pos (show ((4 : Int)).toNat ≤ 281474976710656 by decide), wi (n := 4 - 1) (by omega)]
  refine Ev.step (fun k => rfl) ?_
  simp only [impl_highFirst.l0, if_pos (show ((4 : Int) - 1) ≥ 0 by omega), List.length_replicate, if_pos (show ((4 : Int) - 1) < ((4 : Int).toNat : Int) by decide), and255 x h, wi (n := 4 - 1 - 1) (by omega)]
  refine Ev.step (fun k => rfl) ?_
  simp only [impl_highFirst.l0, if_pos (show ((4 : Int) - 1 - 1) ≥ 0 by omega), List.length_set, List.length_replicate, if_pos (show ((4 : Int) - 1 - 1) < ((4 : Int).toNat : Int) by decide), and255 (x / 256) (by omega), wi (n := 4 - 1 - 1 - 1) (by omega)]
  refine Ev.step (fun k => rfl) ?_
  simp only [impl_highFirst.l0, if_pos (show ((4 : Int) - 1 - 1 - 1) ≥ 0 by omega), List.length_set, List.length_replicate, if_pos (show ((4 : Int) - 1 - 1 - 1) < ((4 : Int).toNat : Int) by decide), and255 (x / 256 / 256) (by omega), wi (n := 4 - 1 - 1 - 1 - 1) (by omega)]
  refine Ev.step (fun k => rfl) ?_
  simp only [impl_highFirst.l0, if_pos (show ((4 : Int) - 1 - 1 - 1 - 1) ≥ 0 by omega), List.length_set, List.length_replicate, if_pos (show ((4 : Int) - 1 - 1 - 1 - 1) < ((4 : Int).toNat : Int) by decide), and255 (x / 256 / 256 / 256) (by omega), wi (n := 4 - 1 - 1 - 1 - 1 - 1) (by omega)]
  refine Ev.step (fun k => rfl) ?_
  simp only [impl_highFirst.l0, if_neg (show ¬ ((4 : Int) - 1 - 1 - 1 - 1 - 1) ≥ 0 by omega)]
  have e : (((((List.replicate (4 : Int).toNat (0 : Int)).set ((4 : Int) - 1).toNat (x % 256)).set ((4 : Int) - 1 - 1).toNat (x / 256 % 256)).set ((4 : Int) - 1 - 1 - 1).toNat (x / 256 / 256 % 256)).set ((4 : Int) - 1 - 1 - 1 - 1).toNat (x / 256 / 256 / 256 % 256)) = [(x / 16777216) % 256, (x / 65536) % 256, (x / 256) % 256, x % 256] := by
    show [x / 256 / 256 / 256 % 256, x / 256 / 256 % 256, x / 256 % 256, x % 256] = _
    rw [show x / 256 / 256 / 256 = x / 16777216 by omega, show x / 256 / 256 = x / 65536 by omega]
  rw [e]
  exact Ev.now _

theorem impl_Sealed_ev (s : ByteArray) (hs : s.size ≤ 140737488351232) : Ev (fun k => impl_Sealed.f k s) (sealT s) := by
  unfold impl_Sealed.f sealT
  by_cases c : (s.size : Int) > 20000
  · simp only [if_pos c]; exact Ev.now _
  · simp only [if_neg c]
    have hr := sumB_range s
    refine Ev.bind (impl_SumOf_ev s hs) ?_
    have e : wrap64 (crcB s s.size 0 4294967295) = sumB s := wi (by unfold sumB at hr; omega)
    simp only [e]
    refine Ev.bind (impl_highFirst_ev _ hr) ?_
    simp only [four_size, if_pos (show s.size + 4 ≤ 9223372036854775807 by omega)]
    exact Ev.now _

theorem impl_Unsealed_ev (s : ByteArray) (hs : s.size ≤ 140737488351232) : Ev (fun k => impl_Unsealed.f k s) (unsealT s) := by
  unfold impl_Unsealed.f unsealT
  rw [wi (n := (s.size : Int) - 4) (by omega)]
  by_cases c : (s.size : Int) - 4 < 0
  · simp only [if_pos c]; exact Ev.now _
  have e : ((s.size : Int) - 4).toNat = s.size - 4 := by omega
  have z := ext_size s (s.size - 4) (by omega)
  simp only [if_neg c, if_pos (show (0 : Int) ≤ (s.size : Int) - 4 by omega), if_pos (show (s.size : Int) - 4 ≤ (s.size : Int) by omega), e]
  refine Ev.bind (impl_Sealed_ev _ (by rw [z]; omega)) ?_
  by_cases c2 : (s.size : Int) - 4 > 20000
  · have e2 : sealT (s.extract 0 (s.size - 4)) = ((⟨#[]⟩ : ByteArray), false) := by unfold sealT; rw [z, if_pos (by omega)]
    simp only [e2, if_pos c2, Bool.false_eq_true, if_false]; exact Ev.now _
  · have e2 : sealT (s.extract 0 (s.size - 4)) = (s.extract 0 (s.size - 4) ++ four (sumB (s.extract 0 (s.size - 4))), true) := by unfold sealT; rw [z, if_neg (by omega)]
    simp only [e2, if_neg c2, if_true]
    by_cases c3 : (s.extract (s.size - 4) s.size).toList = (four (sumB (s.extract 0 (s.size - 4)))).toList
    · simp only [if_pos ((unseal_iff s _ _).2 c3), if_pos c3]; exact Ev.now _
    · simp only [if_neg (fun h => c3 ((unseal_iff s _ _).1 h)), if_neg c3]; exact Ev.now _

theorem drawSumOf_ex (l : List Int) (hl : l.length ≤ 1048576) : ∃ s, Ev (fun k => spec_DrawSumOf.f k l) s ∧ s.size ≤ 40 := by
  obtain ⟨y, e⟩ := new_ex l hl
  obtain ⟨n, q, z, e1, g, k, _, p1⟩ := below_ex l hl 0 y 40 ⟨by omega, by omega⟩
  have hk := k (by omega)
  obtain ⟨s, q2, z2, e2, hs, _⟩ := text_ex l hl q z n p1 (by omega)
  refine ⟨s, ?_, by omega⟩
  unfold spec_DrawSumOf.f
  refine Ev.bind e ?_
  simp only [e1, Option.bind_some]
  exact Ev.bind e2 (Ev.now _)
theorem sum_more (s x : ByteArray) (y : Int) : crcB (s ++ x) (s.size + x.size) 0 y = crcB x x.size 0 (crcB s s.size 0 y) := by
  rw [crcB_split, Nat.zero_add, crcB_congr (s ++ x) s s.size 0 y (fun j _ h => bt_left _ _ _ (by omega))]
  have key : ∀ (d k : Nat) (z : Int), k + d = x.size → crcB (s ++ x) d (s.size + k) z = crcB x d k z := by
    intro d
    induction d with
    | zero => intro k z _; rfl
    | succ d ih =>
      intro k z h
      unfold crcB
      rw [bt_right, show s.size + k + 1 = s.size + (k + 1) by omega]
      exact ih (k + 1) _ (by omega)
  exact key x.size 0 _ (by omega)
theorem FnTurned : laws_FnTurned.Pure := by
  intro l hb
  refine Ev.rounds ?_
  unfold laws_FnTurned.f laws_big.f
  simp only [Option.bind_some, decide_eq_true_eq]
  by_cases c : (l.length : Int) > 1048576
  · simp only [if_pos c]; exact Ev.now _
  simp only [if_neg c]
  have hl : l.length ≤ 1048576 := by omega
  obtain ⟨s, e1, hs⟩ := drawSumOf_ex l hl
  obtain ⟨p, e2, hp, hv⟩ := places_ex l hl
  have sT : sealT s = (s ++ four (sumB s), true) := by unfold sealT; rw [if_neg (by omega)]
  have hT : (s ++ four (sumB s)).size = s.size + 4 := by rw [ByteArray.size_append, four_size]
  have uT := unseal_seal s (by omega)
  have tn := turned s (by omega)
  refine Ev.bind e1 (Ev.bind e2 (Ev.bind (impl_Sealed_ev s (by omega)) ?_))
  rw [sT]
  generalize s ++ four (sumB s) = t at hT uT tn
  refine Ev.bind (impl_Unsealed_ev t (by omega)) ?_
  rw [uT]
  simp only [if_true, hT, wi (n := (s.size : Int) + 4) (by omega), show (((s.size + 4 : Nat) : Int) != (s.size : Int) + 4) = false by simp]
  refine Ev.step (fun k => rfl) ?_
  have hlen : (bytesOf t).length = s.size + 4 := by rw [bytesOf_length, hT]
  have v0 := hv (rd p 0) (by have := rd_get p 0 (by omega); rw [show rd p 0 = p[0] from this]; exact List.getElem_mem _)
  have v1 := hv (rd p 1) (by have := rd_get p 1 (by omega); rw [show rd p 1 = p[1] from this]; exact List.getElem_mem _)
  have m0 : 0 ≤ Int.tmod (rd p 0) ((s.size + 4 : Nat) : Int) ∧ Int.tmod (rd p 0) ((s.size + 4 : Nat) : Int) < ((s.size + 4 : Nat) : Int) := by
    rw [Int.tmod_eq_emod_of_nonneg v0.1]
    exact ⟨Int.emod_nonneg _ (by omega), Int.emod_lt_of_pos _ (by omega)⟩
  have m1 : 0 ≤ Int.tmod (rd p 1) 255 ∧ Int.tmod (rd p 1) 255 < 255 := by rw [Int.tmod_eq_emod_of_nonneg v1.1]; omega
  simp only [laws_FnTurned.j0, Bool.false_eq_true, if_false, Option.bind_some, hp, hlen, if_pos (show (0 : Int) < ((12 : Nat) : Int) by decide), if_pos (show (1 : Int) < ((12 : Nat) : Int) by decide), if_neg (show ¬ ((s.size + 4 : Nat) : Int) = 0 by omega), if_pos m0.1, if_pos m0.2, wi (n := 1 + Int.tmod (rd p 1) 255) (by omega)]
  generalize hi : Int.tmod (rd p 0) ((s.size + 4 : Nat) : Int) = i at m0
  generalize hm : Int.tmod (rd p 1) 255 = m at m1
  have hbt := bt_range t i
  have hrd : rd (bytesOf t) i = bt t i := rd_bytesOf t i
  have hx : Go.bits .xor .u8 (rd (bytesOf t) i) ((1 + m) % 256) = (((bt t i).toNat ^^^ (1 + m).toNat : Nat) : Int) := by
    rw [hrd, show (1 + m) % 256 = 1 + m by omega]
    exact u8_xor _ _ (by omega) (by omega) (by omega) (by omega)
  have hr : 0 ≤ Go.bits .xor .u8 (rd (bytesOf t) i) ((1 + m) % 256) ∧ Go.bits .xor .u8 (rd (bytesOf t) i) ((1 + m) % 256) ≤ 255 := by
    rw [hx]
    have := Nat.xor_lt_two_pow (n := 8) (show (bt t i).toNat < 2 ^ 8 by omega) (show (1 + m).toNat < 2 ^ 8 by omega)
    omega
  have hne : Go.bits .xor .u8 (rd (bytesOf t) i) ((1 + m) % 256) ≠ bt t (i.toNat : Nat) := by
    rw [hx, show ((i.toNat : Nat) : Int) = i by omega]
    intro h
    have h2 : (bt t i).toNat ^^^ (1 + m).toNat = (bt t i).toNat ^^^ 0 := by rw [Nat.xor_zero]; omega
    have := xor_cancel' h2
    omega
  have hw := tn i.toNat (by omega) _ hr hne
  refine Ev.bind (impl_Unsealed_ev _ (by rw [strOfNums_size, List.length_set, hlen]; omega)) ?_
  simp only [hw, Bool.false_eq_true, if_false]
  have hxs : (⟨#[120]⟩ : ByteArray).size = 1 := rfl
  generalize (⟨#[120]⟩ : ByteArray) = x at hxs
  refine Ev.bind (impl_SumOf_ev s (by omega)) (Ev.bind (impl_SumMore_ev _ x (by omega)) ?_)
  simp only [if_pos (show s.size + 1 ≤ 9223372036854775807 by omega)]
  refine Ev.bind (impl_SumOf_ev (s ++ x) (by rw [ByteArray.size_append]; omega)) ?_
  have := sum_more s x 4294967295
  rw [ByteArray.size_append, this]
  simp only [beq_self_eq_true]
  exact Ev.now _

end Go.Proofs.Ytmohbiagcbfkpaa.Pure
