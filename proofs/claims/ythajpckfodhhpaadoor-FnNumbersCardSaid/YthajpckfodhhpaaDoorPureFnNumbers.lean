/- Of every list of bytes that is drawn from, the law on numbers answers true.
No condition beyond those of the given row. -/
import Derived.Test.YthajpckfodhhpaaDoorQNumx0
import Derived.Test.YthajpckfodhhpaaDoorQNumx1
import Derived.Test.YthajpckfodhhpaaDoorQNumx2
import Derived.Test.YthajpckfodhhpaaDoorQNumx3
import Derived.Test.YthajpckfodhhpaaDoorQNumx4
import Derived.Test.YthajpckfodhhpaaDoorStFnNumbers
import Derived.Test.YthajpckfodhhpaaDoorPlain
namespace Go.Proofs.YthajpckfodhhpaaDoor.Pure
open Go.RowKit Go.Proofs.YthajpckfodhhpaaDoor.QNum Go.Proofs.YthajpckfodhhpaaDoor.Plain Go.Proofs.YthajpckfodhhpaaDoorW.PrintWords Go.Proofs.YthajpckfodhhpaaDoorW.PrintLast Go.Proofs.YthajpckfodhhpaaDoorW.PrintMore
set_option linter.unusedSimpArgs false
set_option linter.unusedVariables false

/-- A drawn number's state: where the bytes are read, and what was made of them. -/
def At (l : List Int) (p : Int) : Prop := 0 ≤ p ∧ p ≤ (l.length : Int)
theorem mask255 (n : Int) : Go.bits .and .i64 n 255 = n % 256 := by
  have h : (BitVec.ofInt 64 255).toNat = 2 ^ 8 - 1 := by decide
  have key : (BitVec.ofInt 64 n &&& BitVec.ofInt 64 255).toNat = (n % ((2 ^ 64 : Nat) : Int)).toNat % 2 ^ 8 := by
    rw [BitVec.toNat_and, BitVec.toNat_ofInt, h, Nat.and_two_pow_sub_one_eq_mod]
  show IntKind.i64.wrap ((BitVec.ofInt 64 n &&& BitVec.ofInt 64 255).toNat : Nat) = n % 256
  rw [key, IntKind.wrap_i64]
  omega
theorem new_l0 (l : List Int) (hl : l.length ≤ 1048576) : ∀ (d i : Nat) (x : Int), i + d = l.length → ∃ y, Ev (fun k => spec_l01New.l0 k l x (i : Int)) (l, 0, y)
  | 0, i, x, hi => ⟨x, by
    refine Ev.step (fun k => rfl) ?_
    simp only [spec_l01New.l0, if_neg (show ¬ (i : Int) < (l.length : Int) by omega)]
    exact Ev.now _⟩
  | d + 1, i, x, hi => by
    by_cases c : (i : Int) < 4000
    · obtain ⟨y, hy⟩ := new_l0 l hl d (i + 1) (Go.bits .and .i64 (wrap64 ((wrap64 ((wrap64 (x * 131)) + (wrap64 (rd l (i : Int))))) + 7)) 1073741823) (by omega)
      refine ⟨y, Ev.step (fun k => rfl) ?_⟩
      simp only [spec_l01New.l0, if_pos (show (i : Int) < (l.length : Int) by omega), if_pos c, if_pos (show (0 : Int) ≤ (i : Int) by omega), wr i (by omega)]
      exact hy
    · refine ⟨x, Ev.step (fun k => rfl) ?_⟩
      simp only [spec_l01New.l0, if_pos (show (i : Int) < (l.length : Int) by omega), if_neg c]
      exact Ev.now _
theorem new_ex (l : List Int) (hl : l.length ≤ 1048576) : ∃ y, Ev (fun k => spec_l01New.f k l) (l, 0, y) := new_l0 l hl l.length 0 _ (by omega)
theorem byte_ex (l : List Int) (hl : l.length ≤ 1048576) (p x : Int) (hp : At l p) : ∃ b q y, spec_l01Byte.f l p x = some (b, q, y) ∧ 0 ≤ b ∧ b ≤ 255 ∧ At l q := by
  unfold spec_l01Byte.f
  unfold At at hp ⊢
  by_cases c : p < (l.length : Int)
  · simp only [if_pos c, if_pos hp.1, mask255, wi (n := p + 1) (by omega)]
    exact ⟨_, _, _, rfl, by omega, by omega, by omega, by omega⟩
  · simp only [if_neg c, mask255]
    exact ⟨_, _, _, rfl, by omega, by omega, hp⟩
theorem tmod_lt {v n : Int} (hv : 0 ≤ v) (hn : 0 < n) : 0 ≤ Int.tmod v n ∧ Int.tmod v n < n := by
  rw [Int.tmod_eq_emod_of_nonneg hv]
  exact ⟨Int.emod_nonneg _ (by omega), Int.emod_lt_of_pos _ hn⟩
theorem below_ex (l : List Int) (hl : l.length ≤ 1048576) (p x n : Int) (hp : At l p) : ∃ b q y, spec_l01Below.f l p x n = some (b, q, y) ∧ 0 ≤ b ∧ (0 < n → b < n) ∧ (n ≤ 0 → b = 0) ∧ At l q := by
  unfold spec_l01Below.f
  by_cases c : n ≤ 0
  · simp only [if_pos c]
    exact ⟨_, _, _, rfl, by omega, by omega, fun _ => rfl, hp⟩
  · simp only [if_neg c]
    by_cases c2 : n ≤ 256
    · obtain ⟨b, q, y, h, h0, h1, h2⟩ := byte_ex l hl p x hp
      simp only [if_pos c2, h, Option.bind_some, if_neg (show ¬ n = 0 by omega)]
      have := tmod_lt h0 (show 0 < n by omega)
      exact ⟨_, _, _, rfl, this.1, fun _ => this.2, by omega, h2⟩
    · obtain ⟨b1, q1, y1, e1, g1, k1, p1⟩ := byte_ex l hl p x hp
      obtain ⟨b2, q2, y2, e2, g2, k2, p2⟩ := byte_ex l hl q1 y1 p1
      obtain ⟨b3, q3, y3, e3, g3, k3, p3⟩ := byte_ex l hl q2 y2 p2
      obtain ⟨b4, q4, y4, e4, g4, k4, p4⟩ := byte_ex l hl q3 y3 p3
      simp only [if_neg c2, e1, e2, e3, e4, Option.bind_some, if_neg (show ¬ n = 0 by omega)]
      have := tmod_lt (v := wrap64 ((wrap64 ((wrap64 ((wrap64 (b1 * 16777216)) + (wrap64 (b2 * 65536)))) + (wrap64 (b3 * 256)))) + b4)) (by unfold wrap64; omega) (show 0 < n by omega)
      exact ⟨_, _, _, rfl, this.1, fun _ => this.2, by omega, p4⟩

theorem text_l0 (l : List Int) (hl : l.length ≤ 1048576) (n : Int) (hn : n ≤ 5000) : ∀ (d i : Nat) (out : List Int) (p x : Int), (i : Int) + d = n → out.length = i → At l p → ∃ s q y, Ev (fun k => spec_l01Text.l0 k n out (i : Int) l p x) (s, q, y) ∧ (s.size : Int) = n ∧ At l q
  | 0, i, out, p, x, hi, ho, hp => ⟨strOfNums out, p, x, by
    refine Ev.step (fun k => rfl) ?_
    simp only [spec_l01Text.l0, if_neg (show ¬ (i : Int) < n by omega)]
    exact Ev.now _, by rw [strOfNums_size]; omega, hp⟩
  | d + 1, i, out, p, x, hi, ho, hp => by
    obtain ⟨b, q, y, e, _, _, h2⟩ := byte_ex l hl p x hp
    obtain ⟨s, q2, y2, e2, hs, hq⟩ := text_l0 l hl n hn d (i + 1) (out ++ [b % 256]) q y (by omega) (by rw [List.length_append, ho]; rfl) h2
    refine ⟨s, q2, y2, Ev.step (fun k => rfl) ?_, hs, hq⟩
    simp only [spec_l01Text.l0, if_pos (show (i : Int) < n by omega), e, Option.bind_some, if_pos (show out.length < 140737488355328 by omega), wr i (by omega)]
    exact e2
theorem text_ex (l : List Int) (hl : l.length ≤ 1048576) (p x n : Int) (hp : At l p) (hn : 0 ≤ n ∧ n ≤ 5000) : ∃ s q y, Ev (fun k => spec_l01Text.f k l p x n) (s, q, y) ∧ (s.size : Int) = n ∧ At l q := by
  obtain ⟨s, q, y, e, hs, hq⟩ := text_l0 l hl n hn.2 n.toNat 0 [] p x (by omega) rfl hp
  refine ⟨s, q, y, ?_, hs, hq⟩
  unfold spec_l01Text.f
  simp only [if_neg (show ¬ n > 5000 by omega)]
  refine Ev.step (fun k => rfl) ?_
  simp only [spec_l01Text.j0]
  exact e

/-- A figure to the base sixteen. -/
def fig (v : Int) : Int := if v < 10 then 48 + v else 87 + v
/-- The figures of the bytes from i on. -/
def hexL (s : ByteArray) : Nat → Nat → List Int → List Int
  | 0, _, out => out
  | d + 1, i, out => hexL s d (i + 1) (out ++ [fig (bt s i / 16), fig (bt s i % 16)])
theorem bt_rng (s : ByteArray) (i : Int) : 0 ≤ bt s i ∧ bt s i < 256 := by
  unfold bt
  split
  · rename_i h
    have := UInt8.toNat_lt (s[i.toNat]'h)
    omega
  · omega
theorem td {n : Int} (m : Int) (h : 0 ≤ n) (hm : 0 < m) : Int.tdiv n m = n / m := Int.tdiv_eq_ediv_of_nonneg h
theorem tm {n : Int} (m : Int) (h : 0 ≤ n) : Int.tmod n m = n % m := Int.tmod_eq_emod_of_nonneg h

theorem toL (s : ByteArray) : s.toList = s.data.toList := ByteArray.toList_eq s
theorem ext_eq {a b : ByteArray} (h : a.toList = b.toList) : a = b := by
  rw [toL, toL] at h
  cases a; cases b; simp at h; rw [h]
theorem len_toL (s : ByteArray) : s.toList.length = s.size := by rw [toL, Array.length_toList]; rfl
theorem app_toL (a b : ByteArray) : (a ++ b).toList = a.toList ++ b.toList := by
  simp only [toL]; simp
theorem ext_toL (s : ByteArray) (a b : Nat) : (s.extract a b).toList = (s.toList.drop a).take (b - a) := by
  rw [toL, toL]; simp

theorem spec_figure (v : Int) (h : 0 ≤ v ∧ v < 10) : spec_l01Figure.f v = some (48 + v) := by
  unfold spec_l01Figure.f
  simp only [if_pos h.2, wi (n := 48 + v) (by omega)]
  congr 1; omega
/-- A text of these bytes. -/
def bl (l : List UInt8) : ByteArray := ⟨l.toArray⟩
theorem bl_toL (l : List UInt8) : (bl l).toList = l := by rw [toL]; rfl
theorem bl_size (l : List UInt8) : (bl l).size = l.length := by unfold bl; simp [ByteArray.size]
theorem bl_cons (v : Int) (h : 0 ≤ v ∧ v < 256) (l : List UInt8) : strOfNums [v] ++ bl l = bl (UInt8.ofNat v.toNat :: l) := by
  apply ext_eq
  rw [app_toL, Lib.strOfNums_toList, bl_toL, bl_toL]
  simp [Lib.bytesOf]
theorem decDigits_step (u : Nat) (h : ¬ u < 10) : Lib.decDigits u = Lib.decDigits (u / 10) ++ [UInt8.ofNat (48 + u % 10)] := by
  rw [Lib.decDigits, dif_neg h]
theorem spec_Dec_end (b : Bool) (l : List UInt8) (hl : l.length ≤ 1000) : Ev (fun k => spec_Decimal.l0 k 0 b (bl l)) (bl (if b = true then 45 :: l else l)) := by
  refine Ev.step (fun k => rfl) ?_
  simp only [spec_Decimal.l0, if_true]
  cases b
  · simp only [Bool.false_eq_true, if_false]; exact Ev.now _
  · simp only [if_true, if_pos (show 1 + (bl l).size ≤ 9223372036854775807 by rw [bl_size]; omega)]
    rw [show (⟨#[45]⟩ : ByteArray) ++ bl l = bl (45 :: l) from ext_eq (by rw [app_toL, bl_toL, bl_toL, toL]; rfl)]
    exact Ev.now _
theorem spec_Dec_l0 (b : Bool) : ∀ (j : Nat) (x : Int) (l : List UInt8), x.natAbs < 10 ^ j → x ≠ 0 → l.length + j ≤ 1000 → (-9223372036854775808 ≤ x ∧ x ≤ 9223372036854775807) →
    Ev (fun k => spec_Decimal.l0 k x b (bl l)) (bl (if b = true then 45 :: (Lib.decDigits x.natAbs ++ l) else Lib.decDigits x.natAbs ++ l))
  | 0, x, l, h, h0, hl, hr => by simp at h; omega
  | j + 1, x, l, h, h0, hl, hr => by
    refine Ev.step (fun k => rfl) ?_
    have e1 : (Int.tmod x 10).natAbs = x.natAbs % 10 := by rw [Int.natAbs_tmod]; rfl
    have e2 : (Int.tdiv x 10).natAbs = x.natAbs / 10 := by rw [Int.natAbs_tdiv]; rfl
    have hv : x.natAbs % 10 < 10 := Nat.mod_lt _ (by omega)
    have key : Ev (fun k => if (strOfNums ([48 + ((x.natAbs % 10 : Nat) : Int)] : List Int)).size + (bl l).size ≤ 9223372036854775807 then spec_Decimal.l0 k (wrap64 (Int.tdiv x 10)) b (strOfNums ([48 + ((x.natAbs % 10 : Nat) : Int)] : List Int) ++ bl l) else none) (bl (if b = true then 45 :: (Lib.decDigits x.natAbs ++ l) else Lib.decDigits x.natAbs ++ l)) := by
      have hs : (strOfNums ([48 + ((x.natAbs % 10 : Nat) : Int)] : List Int)).size = 1 := by rw [← len_toL, Lib.strOfNums_toList]; simp [Lib.bytesOf]
      simp only [if_pos (show (strOfNums ([48 + ((x.natAbs % 10 : Nat) : Int)] : List Int)).size + (bl l).size ≤ 9223372036854775807 by rw [hs, bl_size]; omega)]
      rw [bl_cons (48 + ((x.natAbs % 10 : Nat) : Int)) (by omega) l, wi (n := Int.tdiv x 10) (by omega)]
      have e3 : UInt8.ofNat (48 + ((x.natAbs % 10 : Nat) : Int)).toNat = UInt8.ofNat (48 + x.natAbs % 10) := by congr 1
      rw [e3]
      by_cases c : x.natAbs < 10
      · have hz : Int.tdiv x 10 = 0 := by omega
        rw [hz]
        have := spec_Dec_end b (UInt8.ofNat (48 + x.natAbs % 10) :: l) (by simp; omega)
        rw [Lib.decDigits, dif_pos c]
        rw [show x.natAbs % 10 = x.natAbs by omega] at this ⊢
        simpa using this
      · have ih := spec_Dec_l0 b j (Int.tdiv x 10) (UInt8.ofNat (48 + x.natAbs % 10) :: l) (by rw [e2]; rw [Nat.pow_succ] at h; omega) (by omega) (by simp; omega) (by omega)
        rw [e2] at ih
        rw [decDigits_step _ c]
        simpa using ih
    simp only [spec_Decimal.l0, if_neg h0]
    by_cases c : Int.tmod x 10 < 0
    · simp only [if_pos c, wi (n := ((x.natAbs % 10 : Nat) : Int)) (by omega), show -(Int.tmod x 10) = ((x.natAbs % 10 : Nat) : Int) by omega, spec_figure _ (show 0 ≤ ((x.natAbs % 10 : Nat) : Int) ∧ ((x.natAbs % 10 : Nat) : Int) < 10 by omega), Option.bind_some]
      exact key
    · simp only [if_neg c, show Int.tmod x 10 = ((x.natAbs % 10 : Nat) : Int) by omega, spec_figure _ (show 0 ≤ ((x.natAbs % 10 : Nat) : Int) ∧ ((x.natAbs % 10 : Nat) : Int) < 10 by omega), Option.bind_some]
      exact key
theorem spec_Decimal_ev (n : Int) (h : -9223372036854775808 ≤ n ∧ n ≤ 9223372036854775807) : Ev (fun k => spec_Decimal.f k n) (bl (Lib.itoa n)) := by
  unfold spec_Decimal.f
  by_cases c : n = 0
  · subst c
    simp only [if_true]
    rw [show bl (Lib.itoa 0) = (⟨#[48]⟩ : ByteArray) by unfold Lib.itoa; rw [if_neg (by omega)]; rw [Lib.decDigits, dif_pos (by decide)]; rfl]
    exact Ev.now _
  · simp only [if_neg c]
    have := spec_Dec_l0 (decide (n < 0)) 20 n [] (by omega) c (by simp) h
    rw [show bl [] = (⟨#[]⟩ : ByteArray) from rfl] at this
    rw [show bl (Lib.itoa n) = bl (if decide (n < 0) = true then 45 :: (Lib.decDigits n.natAbs ++ []) else Lib.decDigits n.natAbs ++ []) by
      unfold Lib.itoa
      by_cases d : n < 0
      · rw [if_pos d, decide_eq_true d, if_pos rfl, List.append_nil]
      · rw [if_neg d, decide_eq_false d, if_neg (by decide), List.append_nil, show n.toNat = n.natAbs by omega]]
    exact this

theorem bt_toL (s : ByteArray) (i : Nat) (h : i < s.size) : bt s (i : Int) = ((s.toList.getD i 0).toNat : Int) := by
  unfold bt
  have e : s.toList.getD i 0 = s[i] := by
    rw [toL, List.getD_eq_getElem?_getD, Array.getElem?_toList]
    have : s.data[i]? = some s[i] := by rw [Array.getElem?_eq_getElem (show i < s.data.size from h)]; rfl
    rw [this]; rfl
  rw [e]
  simp [h]
theorem dg_digit : ∀ (u : Nat), ∀ c ∈ Lib.decDigits u, 48 ≤ c.toNat ∧ c.toNat ≤ 57 := by
  intro u
  induction u using Nat.strongRecOn with
  | _ u ih =>
    intro c hc
    by_cases h : u < 10
    · rw [Lib.decDigits, dif_pos h] at hc
      obtain rfl := List.mem_singleton.1 hc
      simp; omega
    · rw [decDigits_step u h] at hc
      rcases List.mem_append.1 hc with hc | hc
      · exact ih (u / 10) (by omega) c hc
      · obtain rfl := List.mem_singleton.1 hc
        simp; omega
theorem dg_len : ∀ (j u : Nat), u < 10 ^ (j + 1) → (Lib.decDigits u).length ≤ j + 1
  | 0, u, h => by rw [Lib.decDigits, dif_pos (by simpa using h)]; simp
  | j + 1, u, h => by
    by_cases c : u < 10
    · rw [Lib.decDigits, dif_pos c]; simp
    · rw [decDigits_step u c, List.length_append]
      have := dg_len j (u / 10) (by rw [Nat.pow_succ] at h; omega)
      simp; omega
theorem dg_ne (u : Nat) : Lib.decDigits u ≠ [] := by
  by_cases c : u < 10
  · rw [Lib.decDigits, dif_pos c]; simp
  · rw [decDigits_step u c]; simp
theorem parse_app : ∀ (l : List UInt8) (acc n : Nat) (c : UInt8), Lib.parseUint10 acc l = .ok n → 48 ≤ c.toNat ∧ c.toNat ≤ 57 → n < 1000000000000 → Lib.parseUint10 acc (l ++ [c]) = .ok (n * 10 + (c.toNat - 48))
  | [], acc, n, c, h, hc, hn => by
    simp only [Lib.parseUint10] at h
    injection h with h
    subst h
    simp only [List.nil_append, Lib.parseUint10, if_pos hc, if_neg (show ¬ 1844674407370955162 ≤ acc by omega), if_neg (show ¬ 18446744073709551616 ≤ acc * 10 + (c.toNat - 48) by omega)]
  | x :: r, acc, n, c, h, hc, hn => by
    simp only [Lib.parseUint10, List.cons_append] at h ⊢
    split at h
    · rename_i h1
      rw [if_pos h1]
      split at h
      · cases h
      · rename_i h2
        rw [if_neg h2]
        split at h
        · cases h
        · rename_i h3
          rw [if_neg h3]
          exact parse_app r _ n c h hc hn
    · cases h
theorem dg_parse : ∀ (u : Nat), u ≤ 1000000000 → Lib.parseUint10 0 (Lib.decDigits u) = .ok u := by
  intro u
  induction u using Nat.strongRecOn with
  | _ u ih =>
    intro hu
    by_cases h : u < 10
    · rw [Lib.decDigits, dif_pos h]
      have e : (UInt8.ofNat (48 + u)).toNat = 48 + u := by simp; omega
      simp only [Lib.parseUint10, e, if_pos (show 48 ≤ 48 + u ∧ 48 + u ≤ 57 by omega), if_neg (show ¬ 1844674407370955162 ≤ 0 by omega), if_neg (show ¬ 18446744073709551616 ≤ 0 * 10 + (48 + u - 48) by omega)]
      congr 1; omega
    · rw [decDigits_step u h]
      have e : (UInt8.ofNat (48 + u % 10)).toNat = 48 + u % 10 := by simp; omega
      rw [parse_app _ 0 (u / 10) _ (ih (u / 10) (by omega) (by omega)) (by rw [e]; omega) (by omega), e]
      congr 1; omega
theorem itoa_pos {v : Int} (h : 0 ≤ v) : Lib.itoa v = Lib.decDigits v.toNat := by unfold Lib.itoa; rw [if_neg (by omega)]
theorem atoi_itoa {v : Int} (h : 0 ≤ v ∧ v ≤ 1000000000) : Lib.atoiAll (Lib.itoa v) = .ok v := by
  rw [itoa_pos h.1]
  have hp := dg_parse v.toNat (by omega)
  have hd := dg_digit v.toNat
  have hne := dg_ne v.toNat
  generalize Lib.decDigits v.toNat = l at hp hd hne
  cases l with
  | nil => exact absurd rfl hne
  | cons c r =>
    have hc := hd c (List.mem_cons_self)
    rw [Lib.atoiAll_plain c r (by omega) (by omega)]
    unfold Lib.parseMag
    rw [if_neg hne, hp]
    simp only [Lib.signless, if_neg (show ¬ 9223372036854775808 ≤ v.toNat by omega)]
    congr 1; omega
/-- What is read of the digits l, n read before them. -/
def rdL (full : List UInt8) : List UInt8 → Int → Int × Bool
  | [], n => if n > 1000000000 then (0, false) else if Lib.itoa n = full then (n, true) else (0, false)
  | c :: r, n => if (c.toNat : Int) < 48 then (0, false) else if (c.toNat : Int) > 57 then (0, false) else rdL full r (10 * n + c.toNat - 48)
theorem rdL_or (full : List UInt8) : ∀ (l : List UInt8) (n : Int), 0 ≤ n → rdL full l n = (0, false) ∨ ∃ v, 0 ≤ v ∧ v ≤ 1000000000 ∧ Lib.itoa v = full ∧ rdL full l n = (v, true)
  | [], n, hn => by
    unfold rdL
    by_cases c : n > 1000000000
    · rw [if_pos c]; exact Or.inl rfl
    · rw [if_neg c]
      by_cases d : Lib.itoa n = full
      · rw [if_pos d]; exact Or.inr ⟨n, hn, by omega, d, rfl⟩
      · rw [if_neg d]; exact Or.inl rfl
  | c :: r, n, hn => by
    unfold rdL
    by_cases c1 : (c.toNat : Int) < 48
    · rw [if_pos c1]; exact Or.inl rfl
    · rw [if_neg c1]
      by_cases c2 : (c.toNat : Int) > 57
      · rw [if_pos c2]; exact Or.inl rfl
      · rw [if_neg c2]; exact rdL_or full r _ (by omega)
theorem rdL_app (full : List UInt8) (t : List UInt8) : ∀ (l : List UInt8) (n : Int), (∀ c ∈ l, 48 ≤ c.toNat ∧ c.toNat ≤ 57) → rdL full (l ++ t) n = rdL full t (l.foldl (fun a c => 10 * a + c.toNat - 48) n)
  | [], n, h => rfl
  | c :: r, n, h => by
    have hc := h c (List.mem_cons_self)
    rw [List.cons_append, rdL, if_neg (by omega), if_neg (by omega), rdL_app full t r _ (fun x hx => h x (List.mem_cons_of_mem _ hx))]
    rfl
theorem dg_fold : ∀ (u : Nat), (Lib.decDigits u).foldl (fun (a : Int) c => 10 * a + c.toNat - 48) 0 = u := by
  intro u
  induction u using Nat.strongRecOn with
  | _ u ih =>
    by_cases h : u < 10
    · rw [Lib.decDigits, dif_pos h]
      simp; omega
    · rw [decDigits_step u h, List.foldl_append, ih (u / 10) (by omega)]
      simp; omega
theorem rdL_itoa {v : Int} (h : 0 ≤ v ∧ v ≤ 1000000000) : rdL (Lib.itoa v) (Lib.itoa v) 0 = (v, true) := by
  have := rdL_app (Lib.itoa v) [] (Lib.itoa v) 0 (by rw [itoa_pos h.1]; exact dg_digit _)
  rw [List.append_nil] at this
  rw [this]
  have e : (Lib.itoa v).foldl (fun (a : Int) c => 10 * a + c.toNat - 48) 0 = v := by rw [itoa_pos h.1, dg_fold]; omega
  rw [e, rdL, if_neg (by omega), if_pos rfl]
theorem readDec_eq (s : ByteArray) (hs : s.size ≤ 10) : readDec s = rdL s.toList s.toList 0 := by
  rcases rdL_or s.toList s.toList 0 (by omega) with h | ⟨v, h0, h1, h2, h3⟩
  · rw [h]
    unfold readDec
    split
    · rename_i v hv
      by_cases c : 0 ≤ v ∧ v ≤ 1000000000 ∧ (⟨(Lib.itoa v).toArray⟩ : ByteArray) = s
      · have e : Lib.itoa v = s.toList := by rw [← c.2.2, toL]
        rw [← e, rdL_itoa ⟨c.1, c.2.1⟩] at h
        cases h
      · rw [if_neg c]
    · rfl
  · rw [h3]
    unfold readDec
    rw [← toL, ← h2, atoi_itoa ⟨h0, h1⟩]
    simp only
    rw [if_pos ⟨h0, h1, ext_eq (by rw [toL, h2])⟩]
theorem readDec_long (s : ByteArray) (hs : ¬ s.size ≤ 10) : readDec s = (0, false) := by
  unfold readDec
  split
  · rename_i v hv
    rw [if_neg]
    rintro ⟨h0, h1, h2⟩
    have := dg_len 9 v.toNat (by omega)
    rw [← itoa_pos h0] at this
    have e : (⟨(Lib.itoa v).toArray⟩ : ByteArray).size = (Lib.itoa v).length := by simp [ByteArray.size]
    rw [h2] at e
    omega
  · rfl
theorem spec_RD_l0 (s : ByteArray) (hs : s.size ≤ 10) : ∀ d i (n : Int), i + d = s.size → 0 ≤ n → n < 10 ^ i → Ev (fun k => spec_ReadDecimal.l0 k s n (i : Int)) (rdL s.toList (s.toList.drop i) n)
  | 0, i, n, hi, h0, hn => by
    refine Ev.step (fun k => rfl) ?_
    rw [List.drop_eq_nil_of_le (by rw [len_toL]; omega)]
    simp only [spec_ReadDecimal.l0, if_neg (show ¬ (i : Int) < (s.size : Int) by omega), rdL]
    by_cases c : n > 1000000000
    · simp only [if_pos c]; exact Ev.now _
    · simp only [if_neg c]
      refine Ev.bind (spec_Decimal_ev n (by omega)) ?_
      rw [bl_toL]
      by_cases d : Lib.itoa n = s.toList
      · simp only [if_pos d]; exact Ev.now _
      · simp only [if_neg d]; exact Ev.now _
  | d + 1, i, n, hi, h0, hn => by
    refine Ev.step (fun k => rfl) ?_
    have hb := bt_rng s i
    have hp : (10 : Int) ^ i ≤ 10 ^ 10 := by
      have : (10 : Nat) ^ i ≤ 10 ^ 10 := Nat.pow_le_pow_right (by omega) (by omega)
      exact_mod_cast this
    rw [drop_getD s.toList i 0 (by rw [len_toL]; omega), rdL, ← bt_toL s i (by omega)]
    simp only [spec_ReadDecimal.l0, if_pos (show (i : Int) < (s.size : Int) by omega), if_pos (show (0 : Int) ≤ (i : Int) by omega), wr i (by omega)]
    by_cases c1 : bt s (i : Int) < 48
    · simp only [if_pos c1]; exact Ev.now _
    · simp only [if_neg c1]
      by_cases c2 : bt s (i : Int) > 57
      · simp only [if_pos c2]; exact Ev.now _
      · simp only [if_neg c2, wi (n := 10 * n) (by omega), wi (n := bt s (i : Int)) (by omega), wi (n := 10 * n + bt s (i : Int)) (by omega), wi (n := 10 * n + bt s (i : Int) - 48) (by omega)]
        exact spec_RD_l0 s hs d (i + 1) _ (by omega) (by omega) (by rw [Int.pow_succ]; omega)
theorem spec_ReadDecimal_ev (s : ByteArray) : Ev (fun k => spec_ReadDecimal.f k s) (readDec s) := by
  unfold spec_ReadDecimal.f
  by_cases c : (s.size : Int) > 10
  · simp only [if_pos c]
    rw [readDec_long s (by omega)]
    exact Ev.now _
  · simp only [if_neg c]
    rw [readDec_eq s (by omega)]
    have := spec_RD_l0 s (by omega) s.size 0 0 (by omega) (by omega) (by simp)
    simpa using this

/-- The bytes of a number, lowest seven bits first. -/
def varL : Nat → Int → List Int
  | 0, x => [x % 256]
  | d + 1, x => if x > 127 then (x % 128 + 128) :: varL d (x / 128) else [x % 256]
def big (d : Nat) : Int := 128 ^ d
theorem big_succ (d : Nat) : big (d + 1) = 128 * big d := by unfold big; rw [Int.pow_succ]; omega
theorem big_pos (d : Nat) : 0 < big d := by unfold big; exact Int.pow_pos (by omega)
theorem big_zero : big 0 = 1 := rfl
theorem varL_len : ∀ d x, (varL d x).length ≤ d + 1
  | 0, x => by simp [varL]
  | d + 1, x => by
    have := varL_len d (x / 128)
    unfold varL
    split <;> simp <;> omega

/-- The text of a number. -/
def varT (x : Int) : ByteArray := strOfNums (varL 9 x)

def shortT (s : ByteArray) : ByteArray × Bool := if (s.size : Int) > 20000 then ((⟨#[]⟩ : ByteArray), false) else (varT (s.size : Int) ++ s, true)
theorem strOfNums_len (l : List Int) : (strOfNums l).size = l.length := by
  unfold strOfNums; simp [ByteArray.size]
theorem varT_size (x : Int) : (varT x).size ≤ 10 := by
  unfold varT; rw [strOfNums_len]; exact varL_len 9 x

theorem bb_toL (s : ByteArray) (j : Nat) : bt s (j : Int) = ((s.toList.getD j 0).toNat : Int) := by
  unfold bt
  rw [toL, List.getD_eq_getElem?_getD]
  by_cases h : j < s.size
  · have h' : j < s.data.toList.length := by rw [Array.length_toList]; exact h
    rw [dif_pos (show (j : Int).toNat < s.size by omega), List.getElem?_eq_getElem h']
    simp [ByteArray.getElem_eq_getElem_data]
  · have h' : s.data.toList.length ≤ j := by rw [Array.length_toList]; exact Nat.le_of_not_lt h
    rw [dif_neg (show ¬ (j : Int).toNat < s.size by omega), List.getElem?_eq_none h']
    rfl
theorem bb_left (a b : ByteArray) (j : Nat) (h : j < a.size) : bt (a ++ b) (j : Int) = bt a (j : Int) := by
  rw [bb_toL, bb_toL, app_toL, List.getD_eq_getElem?_getD, List.getD_eq_getElem?_getD, List.getElem?_append_left (by rw [len_toL]; exact h)]
theorem bb_right (a b : ByteArray) (j : Nat) : bt (a ++ b) ((a.size + j : Nat) : Int) = bt b (j : Int) := by
  rw [bb_toL, bb_toL, app_toL, List.getD_eq_getElem?_getD, List.getD_eq_getElem?_getD, List.getElem?_append_right (by rw [len_toL]; omega), len_toL, show a.size + j - a.size = j by omega]
theorem bb_nums (l : List Int) (j : Nat) (h : j < l.length) (hr : ∀ x ∈ l, 0 ≤ x ∧ x ≤ 255) : bt (strOfNums l) (j : Int) = l.getD j 0 := by
  have hx := hr l[j] (List.getElem_mem h)
  rw [bb_toL, toL, List.getD_eq_getElem?_getD, List.getD_eq_getElem?_getD, List.getElem?_eq_getElem h]
  simp [strOfNums, h]
  omega
theorem varL_rng : ∀ (d : Nat) (x : Int), 0 ≤ x → ∀ y ∈ varL d x, 0 ≤ y ∧ y ≤ 255
  | 0, x, h, y, hy => by
    simp [varL] at hy; omega
  | d + 1, x, h, y, hy => by
    unfold varL at hy
    split at hy
    · rcases List.mem_cons.1 hy with hy | hy
      · omega
      · exact varL_rng d (x / 128) (by omega) y hy
    · simp at hy; omega

/-- What is read of a number's bytes: d more bytes may come, i have been read (each above 127), n is their number. -/
def rvF (s : ByteArray) (at_ : Nat) : Nat → Nat → Int → Int × Int × Bool
  | 0, _, _ => (0, 0, false)
  | d + 1, i, n =>
    if at_ + i < s.size then
      if bt s ((at_ + i : Nat) : Int) > 127 then rvF s at_ d (i + 1) (n + bt s ((at_ + i : Nat) : Int) % 128 * big i)
      else if (i > 0 ∧ bt s ((at_ + i : Nat) : Int) = 0) ∨ n + bt s ((at_ + i : Nat) : Int) % 128 * big i > 1000000000 then (0, 0, false)
      else (n + bt s ((at_ + i : Nat) : Int) % 128 * big i, ((at_ + i + 1 : Nat) : Int), true)
    else (0, 0, false)
/-- ReadVar. -/
def rvT (s : ByteArray) (at_ : Int) : Int × Int × Bool := if inB at_ 0 (s.size : Int) = true then rvF s at_.toNat 5 0 0 else (0, 0, false)
theorem big_vals : big 0 = 1 ∧ big 1 = 128 ∧ big 2 = 16384 ∧ big 3 = 2097152 ∧ big 4 = 268435456 ∧ big 5 = 34359738368 := by unfold big; omega
theorem shl_big (x : Int) (hx : 0 ≤ x ∧ x ≤ 127) (i : Nat) (hi : i < 5) : shl .i64 x (wrap64 (7 * (i : Int))) = x * big i := by
  rw [wi (n := 7 * (i : Int)) (by omega)]
  unfold shl
  obtain ⟨e0, e1, e2, e3, e4, _⟩ := big_vals
  have h : i = 0 ∨ i = 1 ∨ i = 2 ∨ i = 3 ∨ i = 4 := by omega
  rcases h with rfl | rfl | rfl | rfl | rfl
  · rw [e0, show x * 2 ^ (min (7 * ((0 : Nat) : Int)).toNat IntKind.i64.bits) = x * 1 by rfl, IntKind.wrap_i64]; omega
  · rw [e1, show x * 2 ^ (min (7 * ((1 : Nat) : Int)).toNat IntKind.i64.bits) = x * 128 by rfl, IntKind.wrap_i64]; omega
  · rw [e2, show x * 2 ^ (min (7 * ((2 : Nat) : Int)).toNat IntKind.i64.bits) = x * 16384 by rfl, IntKind.wrap_i64]; omega
  · rw [e3, show x * 2 ^ (min (7 * ((3 : Nat) : Int)).toNat IntKind.i64.bits) = x * 2097152 by rfl, IntKind.wrap_i64]; omega
  · rw [e4, show x * 2 ^ (min (7 * ((4 : Nat) : Int)).toNat IntKind.i64.bits) = x * 268435456 by rfl, IntKind.wrap_i64]; omega
/-- The sum stays below the next step. -/
theorem big_step (n b : Int) (i : Nat) (hn : 0 ≤ n ∧ n < big i) (hb : 0 ≤ b ∧ b ≤ 127) : 0 ≤ n + b * big i ∧ n + b * big i < big (i + 1) := by
  have hp := big_pos i
  rw [big_succ]
  have h1 : b * big i ≤ 127 * big i := Int.mul_le_mul_of_nonneg_right hb.2 (by omega)
  have h2 : 0 ≤ b * big i := Int.mul_nonneg hb.1 (by omega)
  omega
theorem big_le (i : Nat) (hi : i ≤ 5) : big i ≤ 34359738368 := by
  obtain ⟨e0, e1, e2, e3, e4, e5⟩ := big_vals
  have h : i = 0 ∨ i = 1 ∨ i = 2 ∨ i = 3 ∨ i = 4 ∨ i = 5 := by omega
  rcases h with rfl | rfl | rfl | rfl | rfl | rfl <;> omega

/-- The bytes read so far are those of every number that goes on with them. -/
structure Canon (s : ByteArray) (at_ i : Nat) (n : Int) (pre : List Int) : Prop where
  bytes : Lib.bytesOf pre = (s.toList.drop at_).take i
  len : pre.length = i
  goes : ∀ (v : Int) (d : Nat), 0 < v → varL (d + i) (n + big i * v) = pre ++ varL d v
theorem canon_zero (s : ByteArray) (at_ : Nat) : Canon s at_ 0 0 [] := ⟨by simp [Lib.bytesOf], rfl, fun v d _ => by rw [big_zero]; simp⟩
theorem take_bt (s : ByteArray) (at_ i : Nat) (h : at_ + i < s.size) : (s.toList.drop at_).take (i + 1) = (s.toList.drop at_).take i ++ [UInt8.ofNat (bt s ((at_ + i : Nat) : Int)).toNat] := by
  have hl : i < (s.toList.drop at_).length := by rw [List.length_drop, len_toL]; omega
  rw [List.take_succ_eq_append_getElem hl]
  congr 2
  rw [List.getElem_drop]
  unfold bt
  rw [Int.toNat_natCast, dif_pos h, Int.toNat_natCast, UInt8.ofNat_toNat]
  have := toL s
  simp only [this]
  rfl
theorem canon_step {s : ByteArray} {at_ i : Nat} {n : Int} {pre : List Int} (h : Canon s at_ i n pre) (hs : at_ + i < s.size) (hb : bt s ((at_ + i : Nat) : Int) > 127) :
    Canon s at_ (i + 1) (n + bt s ((at_ + i : Nat) : Int) % 128 * big i) (pre ++ [bt s ((at_ + i : Nat) : Int)]) := by
  have hr := bt_range s ((at_ + i : Nat) : Int)
  refine ⟨?_, by simp [h.len], fun v d hv => ?_⟩
  · rw [take_bt s at_ i hs, ← h.bytes]; simp [Lib.bytesOf]
  · generalize hB : bt s ((at_ + i : Nat) : Int) = B at hb hr ⊢
    have e : n + B % 128 * big i + big (i + 1) * v = n + big i * (B % 128 + 128 * v) := by
      rw [big_succ, Int.mul_add, Int.mul_comm (B % 128), Int.mul_comm 128 (big i), Int.mul_assoc]; omega
    rw [e, show d + (i + 1) = (d + 1) + i by omega, h.goes _ (d + 1) (by omega)]
    have e2 : varL (d + 1) (B % 128 + 128 * v) = B :: varL d v := by
      rw [varL, if_pos (by omega), show (B % 128 + 128 * v) % 128 + 128 = B by omega, show (B % 128 + 128 * v) / 128 = v by omega]
    rw [e2, List.append_assoc]; rfl
theorem varL_short : ∀ (d i : Nat) (x : Int), x < big (i + 1) → (varL d x).length ≤ i + 1
  | 0, _, _, _ => by simp [varL]
  | d + 1, 0, x, h => by
    rw [big_succ, big_zero] at h
    rw [varL, if_neg (by omega)]; simp
  | d + 1, i + 1, x, h => by
    rw [big_succ] at h
    have := varL_short d i (x / 128) (by omega)
    unfold varL
    split <;> simp <;> omega
theorem varL_small (d : Nat) (x : Int) (h : 0 ≤ x ∧ x ≤ 127) : varL d x = [x] := by
  cases d with
  | zero => simp [varL]; omega
  | succ d => rw [varL, if_neg (by omega)]; simp; omega
theorem strOf_toL (l : List Int) : (strOfNums l).toList = Lib.bytesOf l := by rw [toL, strOfNums_data]; rfl
/-- What ends in a byte below 128 is a number's text just if that byte is not a needless nought. -/
theorem canon_end {s : ByteArray} {at_ i : Nat} {n : Int} {pre : List Int} (h : Canon s at_ i n pre) (hs : at_ + i < s.size) (hb : bt s ((at_ + i : Nat) : Int) ≤ 127) (hi : i ≤ 9) (hn : 0 ≤ n ∧ n < big i) :
    (varT (n + bt s ((at_ + i : Nat) : Int) % 128 * big i)).toList = (s.extract at_ (at_ + i + 1)).toList ↔ ¬ (i > 0 ∧ bt s ((at_ + i : Nat) : Int) = 0) := by
  have hr := bt_range s ((at_ + i : Nat) : Int)
  have e1 : (s.extract at_ (at_ + i + 1)).toList = Lib.bytesOf (pre ++ [bt s ((at_ + i : Nat) : Int)]) := by
    rw [ext_toL, show at_ + i + 1 - at_ = i + 1 by omega, take_bt s at_ i hs, ← h.bytes]; simp [Lib.bytesOf]
  rw [e1]
  generalize hB : bt s ((at_ + i : Nat) : Int) = B at hb hr ⊢
  rw [show B % 128 = B by omega]
  unfold varT
  rw [strOf_toL]
  by_cases c : B = 0
  · subst c
    rw [Int.zero_mul, Int.add_zero]
    rcases Nat.eq_zero_or_pos i with h0 | h0
    · subst h0
      rw [big_zero] at hn
      obtain rfl : n = 0 := by omega
      have : pre = [] := List.eq_nil_of_length_eq_zero h.len
      subst this
      rw [varL_small _ _ (by omega)]
      simp
    · constructor
      · intro he
        have hl := congrArg List.length he
        rw [Lib.bytesOf_length, Lib.bytesOf_length, List.length_append, h.len] at hl
        obtain ⟨j, rfl⟩ : ∃ j, i = j + 1 := ⟨i - 1, by omega⟩
        have := varL_short 9 j n hn.2
        simp at hl; omega
      · intro he; exact absurd ⟨h0, rfl⟩ he
  · have e2 := h.goes B (9 - i) (by omega)
    rw [show 9 - i + i = 9 by omega, Int.mul_comm (big i) B, varL_small (9 - i) B (by omega)] at e2
    rw [e2]
    simp [c]

/-- A number's text, lying in a text, is read back. -/
theorem rvF_var (s : ByteArray) (p : Nat) : ∀ (d e i : Nat) (v acc : Int), 0 ≤ v → v < 128 * big d → 0 ≤ acc → acc + v * big i ≤ 1000000000 → (0 < i → 0 < v) → d ≤ e →
    (∀ j : Nat, j < (varL e v).length → p + i + j < s.size ∧ bt s ((p + i + j : Nat) : Int) = (varL e v).getD j 0) →
    rvF s p (d + 1) i acc = (acc + v * big i, ((p + i + (varL e v).length : Nat) : Int), true) := by
  have one (e : Nat) (d i : Nat) (v acc : Int) (h0 : 0 ≤ v) (h1 : v ≤ 127) (ha : 0 ≤ acc) (hs : acc + v * big i ≤ 1000000000) (hi : 0 < i → 0 < v)
      (hb : ∀ j : Nat, j < (varL e v).length → p + i + j < s.size ∧ bt s ((p + i + j : Nat) : Int) = (varL e v).getD j 0) :
      rvF s p (d + 1) i acc = (acc + v * big i, ((p + i + (varL e v).length : Nat) : Int), true) := by
    rw [varL_small e v ⟨h0, h1⟩] at hb ⊢
    obtain ⟨g1, g2⟩ := hb 0 (by simp)
    rw [Nat.add_zero] at g1 g2
    rw [rvF, if_pos g1, g2]
    simp only [List.getD_cons_zero]
    rw [if_neg (show ¬ v > 127 by omega), show v % 128 = v by omega, if_neg (by omega)]
    simp only [List.length_cons, List.length_nil]
  intro d
  induction d with
  | zero =>
    intro e i v acc h0 h1 ha hs hi _ hb
    rw [big_zero] at h1
    exact one e 0 i v acc h0 (by omega) ha hs hi hb
  | succ d ih =>
    intro e i v acc h0 h1 ha hs hi hde hb
    by_cases c : v ≤ 127
    · exact one e (d + 1) i v acc h0 c ha hs hi hb
    · obtain ⟨e, rfl⟩ : ∃ e', e = e' + 1 := ⟨e - 1, by omega⟩
      have hB := big_pos i
      have e1 : varL (e + 1) v = (v % 128 + 128) :: varL e (v / 128) := by rw [varL, if_pos (by omega)]
      rw [e1] at hb ⊢
      obtain ⟨g1, g2⟩ := hb 0 (by simp)
      rw [Nat.add_zero] at g1 g2
      rw [rvF, if_pos g1, g2]
      simp only [List.getD_cons_zero]
      rw [if_pos (show v % 128 + 128 > 127 by omega), show (v % 128 + 128) % 128 = v % 128 by omega]
      have e2 : acc + v % 128 * big i + v / 128 * big (i + 1) = acc + v * big i := by
        rw [big_succ, ← Int.mul_assoc, Int.add_assoc, ← Int.add_mul]
        congr 2; omega
      have hm : 0 ≤ v % 128 * big i := Int.mul_nonneg (by omega) (by omega)
      rw [big_succ] at h1
      have := ih e (i + 1) (v / 128) (acc + v % 128 * big i) (by omega) (by omega) (by omega) (by rw [e2]; exact hs) (fun _ => by omega) (by omega) (fun j hj => by
        have h := hb (j + 1) (by simpa using hj)
        rw [show p + (i + 1) + j = p + i + (j + 1) by omega]
        simpa using h)
      rw [this, e2]
      simp only [List.length_cons]
      rw [show p + (i + 1) + (varL e (v / 128)).length = p + i + ((varL e (v / 128)).length + 1) by omega]
theorem varT_bt (v : Int) (h : 0 ≤ v) (j : Nat) (hj : j < (varT v).size) : bt (varT v) (j : Int) = (varL 9 v).getD j 0 := by
  unfold varT at hj ⊢
  rw [strOfNums_len] at hj
  exact bb_nums _ j hj (varL_rng 9 v h)
theorem rv_back (x y : ByteArray) (v : Int) (h : 0 ≤ v ∧ v ≤ 1000000000) : rvT (x ++ varT v ++ y) (x.size : Int) = (v, ((x.size + (varT v).size : Nat) : Int), true) := by
  have hsz : (varT v).size = (varL 9 v).length := by unfold varT; rw [strOfNums_len]
  have hs : (x ++ varT v ++ y).size = x.size + (varT v).size + y.size := by rw [ByteArray.size_append, ByteArray.size_append]
  unfold rvT
  rw [if_pos (inB_true.2 (by omega)), Int.toNat_natCast]
  have := rvF_var (x ++ varT v ++ y) x.size 4 9 0 v 0 h.1 (by unfold big; omega) (by omega) (by rw [big_zero]; omega) (fun hh => absurd hh (by omega)) (by omega) (fun j hj => by
    refine ⟨by omega, ?_⟩
    rw [Nat.add_zero, bb_left _ _ _ (by rw [ByteArray.size_append]; omega), bb_right, varT_bt v h.1 j (by omega)])
  rw [this, big_zero, ← hsz]
  simp

/-- A figure's value to the base sixteen; -1: no figure. -/
def val16 (x : Int) : Int := if 48 ≤ x ∧ x ≤ 57 then x - 48 else if 97 ≤ x ∧ x ≤ 102 then x - 87 else -1
theorem val16_range (x : Int) : -1 ≤ val16 x ∧ val16 x ≤ 15 := by unfold val16; (repeat' split) <;> omega
/-- The bytes that d pairs of figures from i on tell. -/
def unhexR (s : ByteArray) : Nat → Nat → List Int → ByteArray × Bool
  | 0, _, out => (strOfNums out, true)
  | d + 1, i, out => if val16 (bt s (i : Int)) < 0 then ((⟨#[]⟩ : ByteArray), false) else if val16 (bt s ((i + 1 : Nat) : Int)) < 0 then ((⟨#[]⟩ : ByteArray), false) else unhexR s d (i + 2) (out ++ [(16 * val16 (bt s (i : Int)) + val16 (bt s ((i + 1 : Nat) : Int))) % 256])
def unhexT (s : ByteArray) : ByteArray × Bool := if (s.size : Int) > 40000 then ((⟨#[]⟩ : ByteArray), false) else if (s.size : Int) % 2 = 0 then unhexR s (s.size / 2) 0 [] else ((⟨#[]⟩ : ByteArray), false)
theorem wr2 (i : Nat) (h : i < 4611686018427387904) : wrap64 ((i : Int) + 2) = ((i + 2 : Nat) : Int) := by unfold wrap64; omega

def hxL (s : ByteArray) : Nat → Nat → List Int
  | 0, _ => []
  | d + 1, i => fig (bt s i / 16) :: fig (bt s i % 16) :: hxL s d (i + 1)
theorem hexL_eq (s : ByteArray) : ∀ (d i : Nat) (out : List Int), hexL s d i out = out ++ hxL s d i
  | 0, i, out => by simp [hexL, hxL]
  | d + 1, i, out => by rw [hexL, hexL_eq s d (i + 1), hxL]; simp
theorem hxL_len (s : ByteArray) : ∀ (d i : Nat), (hxL s d i).length = 2 * d
  | 0, i => rfl
  | d + 1, i => by rw [hxL, List.length_cons, List.length_cons, hxL_len s d (i + 1)]; omega
theorem fig_rng {v : Int} (h : 0 ≤ v ∧ v < 16) : 0 ≤ fig v ∧ fig v ≤ 255 := by unfold fig; split <;> omega
theorem val_fig {v : Int} (h : 0 ≤ v ∧ v < 16) : val16 (fig v) = v := by unfold val16 fig; (repeat' split) <;> omega
theorem hxL_rng (s : ByteArray) : ∀ (d i : Nat), ∀ y ∈ hxL s d i, 0 ≤ y ∧ y ≤ 255
  | 0, i, y, h => by cases h
  | d + 1, i, y, h => by
    have hb := bt_rng s i
    rw [hxL] at h
    rcases List.mem_cons.1 h with h | h
    · rw [h]; exact fig_rng (by omega)
    · rcases List.mem_cons.1 h with h | h
      · rw [h]; exact fig_rng (by omega)
      · exact hxL_rng s d (i + 1) y h
def bsL (s : ByteArray) : Nat → Nat → List Int
  | 0, _ => []
  | d + 1, i => bt s i :: bsL s d (i + 1)
theorem unhex_back (s t : ByteArray) : ∀ (d i : Nat) (out : List Int), (∀ j : Nat, j < (hxL s d i).length → bt t ((2 * i + j : Nat) : Int) = (hxL s d i).getD j 0) → unhexR t d (2 * i) out = (strOfNums (out ++ bsL s d i), true)
  | 0, i, out, h => by simp [unhexR, bsL]
  | d + 1, i, out, h => by
    have hb := bt_rng s i
    rw [hxL] at h
    have h0 := h 0 (by simp)
    have h1 := h 1 (by simp)
    simp only [Nat.add_zero, List.getD_cons_zero, List.getD_cons_succ] at h0 h1
    have ih := unhex_back s t d (i + 1) (out ++ [bt s i]) (fun j hj => by
      have := h (j + 2) (by simpa using hj)
      rw [show 2 * (i + 1) + j = 2 * i + (j + 2) by omega]
      simpa using this)
    rw [unhexR, h0, h1, val_fig (by omega), val_fig (by omega), if_neg (by omega), if_neg (by omega), show (16 * (bt s (i : Int) / 16) + bt s (i : Int) % 16) % 256 = bt s i by omega, show 2 * i + 2 = 2 * (i + 1) by omega, ih, bsL]
    simp
theorem bsL_drop (s : ByteArray) : ∀ (d i : Nat), i + d = s.size → Lib.bytesOf (bsL s d i) = s.toList.drop i
  | 0, i, h => by rw [List.drop_eq_nil_of_le (by rw [len_toL]; omega)]; rfl
  | d + 1, i, h => by
    rw [bsL, drop_getD s.toList i 0 (by rw [len_toL]; omega), ← bsL_drop s d (i + 1) (by omega), bb_toL]
    simp [Lib.bytesOf]
theorem hex_back (s : ByteArray) (hs : (s.size : Int) ≤ 20000) : unhexT (strOfNums (hexL s s.size 0 [])) = (s, true) := by
  have hsz : (strOfNums (hexL s s.size 0 [])).size = 2 * s.size := by rw [strOfNums_len, hexL_eq, List.nil_append, hxL_len]
  unfold unhexT
  rw [hsz, if_neg (by omega), if_pos (by omega), show 2 * s.size / 2 = s.size by omega]
  have := unhex_back s (strOfNums (hexL s s.size 0 [])) s.size 0 [] (fun j hj => by
    rw [show 2 * 0 + j = j by omega, hexL_eq, List.nil_append]
    exact bb_nums _ j hj (hxL_rng s s.size 0))
  rw [show 2 * 0 = 0 from rfl] at this
  rw [this, List.nil_append]
  congr 1
  apply ext_eq
  rw [Lib.strOfNums_toList, bsL_drop s s.size 0 (by omega), List.drop_zero]

/-- ReadShort. -/
def rsT (s : ByteArray) (at_ : Int) : ByteArray × Int × Bool :=
  if (rvT s at_).2.2 = true then
    if (rvT s at_).1 > 20000 then ((⟨#[]⟩ : ByteArray), 0, false)
    else if (rvT s at_).1 > (s.size : Int) - (rvT s at_).2.1 then ((⟨#[]⟩ : ByteArray), 0, false)
    else (s.extract (rvT s at_).2.1.toNat ((rvT s at_).2.1 + (rvT s at_).1).toNat, (rvT s at_).2.1 + (rvT s at_).1, true)
  else ((⟨#[]⟩ : ByteArray), 0, false)
theorem rvF_range (s : ByteArray) (at_ : Nat) : ∀ (d i : Nat) (n : Int), 0 ≤ n → 0 ≤ (rvF s at_ d i n).1 ∧ (rvF s at_ d i n).1 ≤ 1000000000 ∧ 0 ≤ (rvF s at_ d i n).2.1 ∧ (rvF s at_ d i n).2.1 ≤ (s.size : Int)
  | 0, _, _, _ => by simp [rvF]
  | d + 1, i, n, hn => by
    have hb := bt_range s ((at_ + i : Nat) : Int)
    have hp := big_pos i
    have hm : 0 ≤ bt s ((at_ + i : Nat) : Int) % 128 * big i := Int.mul_nonneg (by omega) (by omega)
    unfold rvF
    by_cases c : at_ + i < s.size
    · rw [if_pos c]
      by_cases c2 : bt s ((at_ + i : Nat) : Int) > 127
      · rw [if_pos c2]; exact rvF_range s at_ d (i + 1) _ (by omega)
      · rw [if_neg c2]
        by_cases c3 : (i > 0 ∧ bt s ((at_ + i : Nat) : Int) = 0) ∨ n + bt s ((at_ + i : Nat) : Int) % 128 * big i > 1000000000
        · rw [if_pos c3]; simp
        · rw [if_neg c3]; simp only; omega
    · rw [if_neg c]; simp
theorem rvT_range (s : ByteArray) (at_ : Int) : 0 ≤ (rvT s at_).1 ∧ (rvT s at_).1 ≤ 1000000000 ∧ 0 ≤ (rvT s at_).2.1 ∧ (rvT s at_).2.1 ≤ (s.size : Int) := by
  unfold rvT
  split
  · exact rvF_range s _ 5 0 0 (by omega)
  · simp

theorem impl_in (x lo hi : Int) : impl_within.f x lo hi = some (inB x lo hi) := in_ite x lo hi

theorem impl_VarText_l0 : ∀ (d : Nat) (x : Int) (out : List Int), 0 ≤ x → x ≤ 9223372036854775807 → x < 128 * big d → out.length + d ≤ 100 → Ev (fun k => impl_VarText.l0 k x out) (strOfNums (out ++ varL d x), true)
  | 0, x, out, h0, hm, hx, hl => by
    refine Ev.step (fun k => rfl) ?_
    rw [big_zero] at hx
    simp only [impl_VarText.l0, if_neg (show ¬ x > 127 by omega), if_pos (show out.length < 140737488355328 by omega), varL]
    exact Ev.now _
  | d + 1, x, out, h0, hm, hx, hl => by
    refine Ev.step (fun k => rfl) ?_
    rw [big_succ] at hx
    by_cases c : x > 127
    · have e1 : wrap64 (Int.tdiv x 128) = x / 128 := by rw [Int.tdiv_eq_ediv_of_nonneg h0]; exact wi (by omega)
      have e2 : (wrap64 ((Int.tmod x 128) + 128)) % 256 = x % 128 + 128 := by rw [Int.tmod_eq_emod_of_nonneg h0, wi (by omega)]; omega
      have ih := impl_VarText_l0 d (x / 128) (out ++ [x % 128 + 128]) (by omega) (by omega) (by omega) (by simp; omega)
      simp only [impl_VarText.l0, if_pos c, if_pos (show out.length < 140737488355328 by omega), e1, e2, varL]
      simpa using ih
    · simp only [impl_VarText.l0, if_neg c, if_pos (show out.length < 140737488355328 by omega), varL]
      exact Ev.now _
theorem impl_VarText_ev (x : Int) : Ev (fun k => impl_VarText.f k x) (if inB x 0 1000000000 = true then (varT x, true) else ((⟨#[]⟩ : ByteArray), false)) := by
  unfold impl_VarText.f
  simp only [impl_in, Option.bind_some]
  by_cases c : inB x 0 1000000000 = true
  · simp only [if_pos c]
    have := inB_true.1 c
    exact impl_VarText_l0 9 x [] (by omega) (by omega) (by unfold big; omega) (by simp)
  · simp only [if_neg c]
    exact Ev.now _

theorem impl_ReadVar_l0 (s : ByteArray) (hs : s.size ≤ 140737488351232) (at_ : Nat) (ha : at_ ≤ s.size) : ∀ (d i : Nat) (n : Int), i + d = 5 → 0 ≤ n ∧ n < big i → Ev (fun k => impl_ReadVar.l0 k s (at_ : Int) n (i : Int)) (rvF s at_ d i n)
  | 0, i, n, hi, hn => by
    refine Ev.step (fun k => rfl) ?_
    simp only [impl_ReadVar.l0, if_neg (show ¬ (i : Int) < 5 by omega)]
    refine Ev.step (fun k => rfl) ?_
    simp only [impl_ReadVar.j1, Bool.false_eq_true, if_false]
    exact Ev.now _
  | d + 1, i, n, hi, hn => by
    refine Ev.step (fun k => rfl) ?_
    have e1 : wrap64 ((at_ : Int) + (i : Int)) = ((at_ + i : Nat) : Int) := by rw [wi (by omega)]; omega
    simp only [impl_ReadVar.l0, if_pos (show (i : Int) < 5 by omega), e1, rvF]
    refine Ev.step (fun k => rfl) ?_
    by_cases c : at_ + i < s.size
    · have hb := bt_range s ((at_ + i : Nat) : Int)
      generalize hB : bt s ((at_ + i : Nat) : Int) = B at hb ⊢
      have e3 : Int.tmod B 128 = B % 128 := Int.tmod_eq_emod_of_nonneg hb.1
      have hbig := big_le (i + 1) (by omega)
      have hst := big_step n (B % 128) i hn (by omega)
      have e4 : wrap64 (n + shl .i64 (Int.tmod (wrap64 B) 128) (wrap64 (7 * (i : Int)))) = n + B % 128 * big i := by
        rw [wi (n := B) (by omega), e3, shl_big _ (by omega) i (by omega), wi (by omega)]
      simp only [impl_ReadVar.j1, e1, show decide (((at_ + i : Nat) : Int) < (s.size : Int)) = true from decide_eq_true (by omega), if_pos (show (0 : Int) ≤ ((at_ + i : Nat) : Int) by omega), if_pos (show ((at_ + i : Nat) : Int) < (s.size : Int) by omega), if_pos c, if_true, hB, wi (n := B) (by omega), wi (n := 7 * (i : Int)) (by omega), if_pos (show 0 ≤ 7 * (i : Int) by omega)]
      have e5 : wrap64 (n + shl .i64 (Int.tmod B 128) (7 * (i : Int))) = n + B % 128 * big i := by
        rw [wi (n := B) (by omega), wi (n := 7 * (i : Int)) (by omega)] at e4; exact e4
      simp only [e5, wr i (by omega), wr (at_ + i) (by omega)]
      by_cases c2 : B > 127
      · simp only [if_pos c2]
        exact impl_ReadVar_l0 s hs at_ ha d (i + 1) _ (by omega) hst
      · simp only [if_neg c2]
        by_cases c3 : (i : Int) > 0
        · simp only [if_pos c3]
          by_cases c4 : B = 0
          · simp only [if_pos c4, if_pos (show (i > 0 ∧ B = 0) ∨ n + B % 128 * big i > 1000000000 from Or.inl ⟨by omega, c4⟩)]; exact Ev.now _
          · simp only [if_neg c4]
            by_cases c5 : n + B % 128 * big i > 1000000000
            · simp only [if_pos c5, if_pos (show (i > 0 ∧ B = 0) ∨ n + B % 128 * big i > 1000000000 from Or.inr c5)]; exact Ev.now _
            · simp only [if_neg c5, if_neg (show ¬ ((i > 0 ∧ B = 0) ∨ n + B % 128 * big i > 1000000000) by omega)]; exact Ev.now _
        · simp only [if_neg c3]
          by_cases c5 : n + B % 128 * big i > 1000000000
          · simp only [if_pos c5, if_pos (show (i > 0 ∧ B = 0) ∨ n + B % 128 * big i > 1000000000 from Or.inr c5)]; exact Ev.now _
          · simp only [if_neg c5, if_neg (show ¬ ((i > 0 ∧ B = 0) ∨ n + B % 128 * big i > 1000000000) by omega)]; exact Ev.now _
    · simp only [impl_ReadVar.j1, show decide (((at_ + i : Nat) : Int) < (s.size : Int)) = false from decide_eq_false (by omega), if_neg c, Bool.false_eq_true, if_false]
      exact Ev.now _
theorem impl_ReadVar_ev (s : ByteArray) (hs : s.size ≤ 140737488351232) (at_ : Int) : Ev (fun k => impl_ReadVar.f k s at_) (rvT s at_) := by
  unfold impl_ReadVar.f rvT
  simp only [impl_in, Option.bind_some]
  by_cases c : inB at_ 0 (s.size : Int) = true
  · have h := inB_true.1 c
    simp only [if_pos c]
    obtain ⟨n, rfl⟩ := Int.eq_ofNat_of_zero_le h.1
    rw [Int.toNat_natCast]
    exact impl_ReadVar_l0 s hs n (by omega) 5 0 0 rfl (by rw [big_zero]; omega)
  · simp only [if_neg c]; exact Ev.now _

theorem impl_ShortText_ev (s : ByteArray) (hs : s.size ≤ 140737488351232) : Ev (fun k => impl_ShortText.f k s) (shortT s) := by
  unfold impl_ShortText.f shortT
  by_cases c : (s.size : Int) > 20000
  · simp only [if_pos c]; exact Ev.now _
  · simp only [if_neg c]
    refine Ev.bind (impl_VarText_ev _) ?_
    have := varT_size (s.size : Int)
    simp only [if_pos (inB_true.2 (show 0 ≤ (s.size : Int) ∧ (s.size : Int) ≤ 1000000000 by omega)), if_pos (show (varT (s.size : Int)).size + s.size ≤ 9223372036854775807 by omega)]
    exact Ev.now _

theorem impl_ReadShort_ev (s : ByteArray) (hs : s.size ≤ 140737488351232) (at_ : Int) : Ev (fun k => impl_ReadShort.f k s at_) (rsT s at_) := by
  unfold impl_ReadShort.f rsT
  refine Ev.bind (impl_ReadVar_ev s hs at_) ?_
  have h := rvT_range s at_
  generalize rvT s at_ = p at h ⊢
  obtain ⟨n, q, b⟩ := p
  simp only at h ⊢
  by_cases c : b = true
  · simp only [if_pos c]
    by_cases c1 : n > 20000
    · simp only [if_pos c1]; exact Ev.now _
    · simp only [if_neg c1, wi (n := (s.size : Int) - q) (by omega), wi (n := q + n) (by omega)]
      by_cases c2 : n > (s.size : Int) - q
      · simp only [if_pos c2]; exact Ev.now _
      · simp only [if_neg c2, if_pos h.2.2.1, if_pos (show q ≤ q + n by omega), if_pos (show q + n ≤ (s.size : Int) by omega)]; exact Ev.now _
  · simp only [if_neg c]; exact Ev.now _

theorem fig_table (v : Int) (h : 0 ≤ v ∧ v < 16) : bt (⟨#[48, 49, 50, 51, 52, 53, 54, 55, 56, 57, 97, 98, 99, 100, 101, 102]⟩ : ByteArray) v = fig v := by
  have c : v = 0 ∨ v = 1 ∨ v = 2 ∨ v = 3 ∨ v = 4 ∨ v = 5 ∨ v = 6 ∨ v = 7 ∨ v = 8 ∨ v = 9 ∨ v = 10 ∨ v = 11 ∨ v = 12 ∨ v = 13 ∨ v = 14 ∨ v = 15 := by omega
  rcases c with rfl | rfl | rfl | rfl | rfl | rfl | rfl | rfl | rfl | rfl | rfl | rfl | rfl | rfl | rfl | rfl <;> rfl
theorem impl_Hex_l0 (s : ByteArray) (hs : s.size ≤ 20000) : ∀ (d i : Nat) (out : List Int), i + d = s.size → out.length ≤ 2 * i → Ev (fun k => impl_Hex.l0 k s out (i : Int)) (strOfNums (hexL s d i out), true)
  | 0, i, out, hi, ho => by
    refine Ev.step (fun k => rfl) ?_
    simp only [impl_Hex.l0, if_neg (show ¬ (i : Int) < (s.size : Int) by omega)]
    exact Ev.now _
  | d + 1, i, out, hi, ho => by
    refine Ev.step (fun k => rfl) ?_
    have hb := bt_rng s i
    simp only [impl_Hex.l0, if_pos (show (i : Int) < (s.size : Int) by omega), if_pos (show (0 : Int) ≤ (i : Int) by omega), td 16 hb.1 (by omega), tm 16 hb.1, show bt s i / 16 % 256 = bt s i / 16 by omega, if_pos (show 0 ≤ bt s i / 16 by omega), if_pos (show bt s i / 16 < 16 by omega), if_pos (show 0 ≤ bt s i % 16 by omega), if_pos (show bt s i % 16 < 16 by omega), fig_table (bt s i / 16) (by omega), fig_table (bt s i % 16) (by omega), Option.bind_some, List.length_cons, List.length_nil, if_pos (show out.length + (0 + 1 + 1) < 140737488355328 by omega), wr i (by omega)]
    exact impl_Hex_l0 s hs d (i + 1) _ (by omega) (by rw [List.length_append]; simp; omega)

theorem table_val : ∀ n : Fin 256, Lib.indexByte (⟨#[48, 49, 50, 51, 52, 53, 54, 55, 56, 57, 97, 98, 99, 100, 101, 102]⟩ : ByteArray).data.toList (((n.val : Int)).toNat.toUInt8) = val16 (n.val : Int) := by decide +kernel
theorem index_eq (x : Int) (h : 0 ≤ x ∧ x ≤ 255) : strings_IndexByte.f (⟨#[48, 49, 50, 51, 52, 53, 54, 55, 56, 57, 97, 98, 99, 100, 101, 102]⟩ : ByteArray) x = some (val16 x) := by
  have := table_val ⟨x.toNat, by omega⟩
  simp only [show ((x.toNat : Nat) : Int) = x by omega] at this
  unfold strings_IndexByte.f
  rw [this]
theorem impl_Unhex_l0 (s : ByteArray) (hs : s.size ≤ 40000) : ∀ (d i : Nat) (out : List Int), i + 2 * d = s.size → out.length ≤ i → Ev (fun k => impl_Unhex.l0 k s out (i : Int)) (unhexR s d i out)
  | 0, i, out, hi, ho => by
    refine Ev.step (fun k => rfl) ?_
    simp only [impl_Unhex.l0, if_neg (show ¬ (i : Int) < (s.size : Int) by omega), unhexR]
    exact Ev.now _
  | d + 1, i, out, hi, ho => by
    refine Ev.step (fun k => rfl) ?_
    have hb := bt_range s i
    have hb2 := bt_range s ((i + 1 : Nat) : Int)
    have g1 := val16_range (bt s i)
    have g2 := val16_range (bt s ((i + 1 : Nat) : Int))
    simp only [impl_Unhex.l0, if_pos (show (i : Int) < (s.size : Int) by omega), if_pos (show (0 : Int) ≤ (i : Int) by omega), wr i (by omega), if_pos (show (0 : Int) ≤ ((i + 1 : Nat) : Int) by omega), if_pos (show ((i + 1 : Nat) : Int) < (s.size : Int) by omega), if_pos (show out.length < 140737488355328 by omega), wr2 i (by omega), index_eq _ hb, index_eq _ hb2, Option.bind_some]
    unfold unhexR
    by_cases c1 : val16 (bt s (i : Int)) < 0
    · simp only [if_pos c1]; exact Ev.now _
    by_cases c2 : val16 (bt s ((i + 1 : Nat) : Int)) < 0
    · simp only [if_neg c1, if_pos c2]; exact Ev.now _
    simp only [if_neg c1, if_neg c2, wi (n := 16 * val16 (bt s (i : Int))) (by omega), wi (n := 16 * val16 (bt s (i : Int)) + val16 (bt s ((i + 1 : Nat) : Int))) (by omega)]
    exact impl_Unhex_l0 s hs d (i + 2) _ (by omega) (by rw [List.length_append]; simp; omega)
theorem impl_Unhex_ev (s : ByteArray) : Ev (fun k => impl_Unhex.f k s) (unhexT s) := by
  unfold impl_Unhex.f unhexT
  by_cases c2 : (s.size : Int) % 2 = 0
  · simp only [if_pos c2]
    refine Ev.step (fun k => rfl) ?_
    by_cases c : (s.size : Int) > 40000
    · simp only [impl_Unhex.j0, if_pos c, decide_eq_true c, if_true]
      exact Ev.now _
    · simp only [impl_Unhex.j0, if_neg c, decide_eq_false c, Bool.false_eq_true, if_false]
      exact impl_Unhex_l0 s (by omega) (s.size / 2) 0 [] (by omega) (by simp)
  · simp only [if_neg c2]
    refine Ev.step (fun k => rfl) ?_
    simp only [impl_Unhex.j0, if_true, ite_self]
    exact Ev.now _

theorem number_ex (l : List Int) (hl : l.length ≤ 1048576) (p x : Int) (hp : At l p) : ∃ v, spec_l01Number.f l p x = some v := by
  unfold spec_l01Number.f
  obtain ⟨n, q, y, e, g, k, _, p1⟩ := below_ex l hl p x 4 hp
  simp only [e, Option.bind_some]
  by_cases c : n = 0
  · simp only [if_pos c, spec_l01PickInt.f]
    obtain ⟨m, q2, y2, e2, g2, k2, _, p2⟩ := below_ex l hl q y (([(-1), 0, 127, 128, 16383, 16384, 1000000000, 1000000001, 9223372036854775807, (-9223372036854775808)] : List Int).length : Int) p1
    have := k2 (by simp)
    simp only [e2, Option.bind_some, if_pos g2, if_pos this]
    exact ⟨_, rfl⟩
  · simp only [if_neg c]
    by_cases c2 : n = 1
    · obtain ⟨m, q2, y2, e2, _⟩ := below_ex l hl q y 1000000000 p1
      simp only [if_pos c2, e2, Option.bind_some]
      exact ⟨_, rfl⟩
    · obtain ⟨m, q2, y2, e2, _⟩ := below_ex l hl q y 400 p1
      simp only [if_neg c2, e2, Option.bind_some]
      exact ⟨_, rfl⟩
theorem drawVar_ex (l : List Int) (hl : l.length ≤ 1048576) : ∃ n, Ev (fun k => spec_DrawVarText.f k l) n := by
  obtain ⟨y, e⟩ := new_ex l hl
  obtain ⟨v, e1⟩ := number_ex l hl 0 y ⟨by omega, by omega⟩
  refine ⟨v.1, ?_⟩
  unfold spec_DrawVarText.f
  refine Ev.bind e ?_
  simp only [e1, Option.bind_some]
  exact Ev.now _
theorem long_ex (n b : Int) (hn : 0 ≤ n ∧ n ≤ 30000) : ∀ (d i : Nat) (t : List Int), (i : Int) + d = n → (t.length : Int) = n → ∃ s, Ev (fun k => spec_l01Long.l0 k n b t (i : Int)) s ∧ (s.size : Int) = n
  | 0, i, t, hi, ht => ⟨strOfNums t, by
    refine Ev.step (fun k => rfl) ?_
    simp only [spec_l01Long.l0, if_neg (show ¬ (i : Int) < n by omega)]
    exact Ev.now _, by rw [strOfNums_len]; omega⟩
  | d + 1, i, t, hi, ht => by
    obtain ⟨s, e, hs⟩ := long_ex n b hn d (i + 1) (t.set (i : Int).toNat b) (by omega) (by rw [List.length_set]; exact ht)
    refine ⟨s, Ev.step (fun k => rfl) ?_, hs⟩
    simp only [spec_l01Long.l0, if_pos (show (i : Int) < n by omega), if_pos (show (0 : Int) ≤ (i : Int) by omega), if_pos (show (i : Int) < (t.length : Int) by omega), wr i (by omega)]
    exact e
theorem drawHex_ex (l : List Int) (hl : l.length ≤ 1048576) : ∃ s, Ev (fun k => spec_DrawHex.f k l) s ∧ (s.size : Int) ≤ 20001 := by
  obtain ⟨y, e⟩ := new_ex l hl
  obtain ⟨n, q, z, e1, g, k, _, p1⟩ := below_ex l hl 0 y 60 ⟨by omega, by omega⟩
  unfold spec_DrawHex.f
  by_cases c : n = 0
  · obtain ⟨m, q2, y2, e2, g2, k2, _, p2⟩ := below_ex l hl q z 2 p1
    have hk := k2 (by omega)
    obtain ⟨s, e3, hs⟩ := long_ex (20000 + m) 200 (by omega) (20000 + m).toNat 0 (List.replicate (20000 + m).toNat 0) (by omega) (by rw [List.length_replicate]; omega)
    refine ⟨s, Ev.bind e ?_, by omega⟩
    simp only [spec_l01Once.f, e1, Option.bind_some, show (n == 0) = true by simp [c], if_true, e2, wi (n := 20000 + m) (by omega), spec_l01Long.f, if_pos (show 0 ≤ 20000 + m by omega), if_pos (show (20000 + m).toNat ≤ 281474976710656 by omega)]
    exact Ev.bind e3 (Ev.now _)
  · obtain ⟨m, q2, y2, e2, g2, k2, _, p2⟩ := below_ex l hl q z 30 p1
    have hk := k2 (by omega)
    obtain ⟨s, q3, z3, e3, hs, _⟩ := text_ex l hl q2 y2 m p2 (by omega)
    refine ⟨s, Ev.bind e ?_, by omega⟩
    simp only [spec_l01Once.f, e1, Option.bind_some, show (n == 0) = false by simp [c], Bool.false_eq_true, if_false, e2]
    exact Ev.bind e3 (Ev.now _)
theorem numbers_j2 (v : Int) (t : ByteArray) (ht : (t.size : Int) ≤ 300) : Ev (fun k => laws_FnNumbers.j2 k v (varT v) true v ((1 + (varT v).size : Nat) : Int) true v true t) true := by
  refine Ev.step (fun k => rfl) ?_
  have hv := varT_size (t.size : Int)
  have hw := varT_size v
  have e1 : shortT t = (varT (t.size : Int) ++ t, true) := by unfold shortT; rw [if_neg (by omega)]
  have e0 : (⟨#[]⟩ : ByteArray) ++ varT (t.size : Int) = varT (t.size : Int) := ext_eq (by rw [app_toL, toL]; simp)
  have e2 := rv_back (⟨#[]⟩ : ByteArray) t (t.size : Int) (by omega)
  rw [e0, show ((⟨#[]⟩ : ByteArray).size : Int) = 0 from rfl, show (⟨#[]⟩ : ByteArray).size = 0 from rfl, Nat.zero_add] at e2
  have hs : (varT (t.size : Int) ++ t).size = (varT (t.size : Int)).size + t.size := ByteArray.size_append
  have e3 : rsT (varT (t.size : Int) ++ t) 0 = (t, ((varT (t.size : Int) ++ t).size : Int), true) := by
    unfold rsT
    rw [e2]
    simp only [if_true]
    rw [if_neg (by omega), if_neg (by omega)]
    refine Prod.ext ?_ (Prod.ext ?_ rfl)
    · apply ext_eq
      simp only
      rw [ext_toL, app_toL, List.drop_append_of_le_length (by rw [len_toL]; omega), List.drop_eq_nil_of_le (by rw [len_toL]; omega), List.nil_append, List.take_of_length_le (by rw [len_toL]; omega)]
    · simp only; omega
  simp only [laws_FnNumbers.j2]
  refine Ev.bind (impl_ShortText_ev t (by omega)) ?_
  rw [e1]
  refine Ev.bind (impl_ReadShort_ev _ (by rw [hs]; omega) 0) ?_
  rw [e3]
  have hx : Ev (fun k => impl_Hex.f k t) (strOfNums (hexL t t.size 0 []), true) := by
    unfold impl_Hex.f
    simp only [if_neg (show ¬ (t.size : Int) > 20000 by omega)]
    exact impl_Hex_l0 t (by omega) t.size 0 [] (by omega) (by simp)
  refine Ev.bind hx (Ev.bind (impl_Unhex_ev _) ?_)
  rw [hex_back t (by omega)]
  simp only [if_true, wi (n := ((varT v).size : Int) + 1) (by omega), if_pos (show ((1 + (varT v).size : Nat) : Int) = ((varT v).size : Int) + 1 by omega), beq_self_eq_true]
  exact Ev.now _
theorem numbers_j1 (l : List Int) (hl : l.length ≤ 1048576) (v : Int) (h : 0 ≤ v ∧ v ≤ 1000000000) : Ev (fun k => laws_FnNumbers.j1 k l v) true := by
  refine Ev.step (fun k => rfl) ?_
  have hw := varT_size v
  have e2 := rv_back (⟨#[120]⟩ : ByteArray) (⟨#[121]⟩ : ByteArray) v h
  rw [show ((⟨#[120]⟩ : ByteArray).size : Int) = 1 from rfl, show (⟨#[120]⟩ : ByteArray).size = 1 from rfl] at e2
  have hs : ((⟨#[120]⟩ : ByteArray) ++ varT v).size = 1 + (varT v).size := ByteArray.size_append
  have hs2 : ((⟨#[120]⟩ : ByteArray) ++ varT v ++ (⟨#[121]⟩ : ByteArray)).size = 1 + (varT v).size + 1 := by rw [ByteArray.size_append, hs]; rfl
  have hd : readDec (⟨(Lib.itoa v).toArray⟩ : ByteArray) = (v, true) := by
    unfold readDec
    simp only [List.toList_toArray, atoi_itoa h]
    rw [if_pos ⟨h.1, h.2, trivial⟩]
  have hz : (⟨(Lib.itoa v).toArray⟩ : ByteArray).size ≤ 140737488351232 := by
    have := dg_len 9 v.toNat (by omega)
    rw [← itoa_pos h.1] at this
    have e : (⟨(Lib.itoa v).toArray⟩ : ByteArray).size = (Lib.itoa v).length := by simp [ByteArray.size]
    omega
  obtain ⟨t, e4, ht⟩ := drawHex_ex l hl
  simp only [laws_FnNumbers.j1]
  refine Ev.bind (impl_VarText_ev v) ?_
  simp only [if_pos (inB_true.2 h), hs, if_pos (show 1 + (varT v).size ≤ 9223372036854775807 by omega), if_pos (show 1 + (varT v).size + 1 ≤ 9223372036854775807 by omega)]
  refine Ev.bind (impl_ReadVar_ev _ (by rw [hs2]; omega) 1) ?_
  rw [e2]
  simp only [impl_Decimal.f, if_pos (show (Lit.int .i64 v).wf = true by simp [Lit.wf, IntKind.min, IntKind.max, IntKind.signed, IntKind.bits]; omega), Option.bind_some, impl_ReadDecimal.f, if_pos hz, hd]
  refine Ev.bind e4 ?_
  by_cases c : (t.size : Int) > 300
  · simp only [if_pos c]
    exact numbers_j2 v _ (by decide)
  · simp only [if_neg c]
    exact numbers_j2 v t (by omega)
theorem FnNumbers : laws_FnNumbers.Pure := by
  intro l hb
  refine Ev.rounds ?_
  unfold laws_FnNumbers.f laws_big.f
  simp only [Option.bind_some, decide_eq_true_eq]
  by_cases c : (l.length : Int) > 1048576
  · simp only [if_pos c]; exact Ev.now _
  simp only [if_neg c]
  have hl : l.length ≤ 1048576 := by omega
  obtain ⟨n, e⟩ := drawVar_ex l hl
  refine Ev.bind e ?_
  have key (b : Bool) (hbb : b = false → 0 ≤ n ∧ n ≤ 1000000000) : Ev (fun k => laws_FnNumbers.j0 k l n b) true := by
    refine Ev.step (fun k => rfl) ?_
    simp only [laws_FnNumbers.j0]
    cases b
    · simp only [Bool.false_eq_true, if_false]
      exact numbers_j1 l hl n (hbb rfl)
    · simp only [if_true]
      exact numbers_j1 l hl 12345 (by omega)
  by_cases c2 : n < 0
  · simp only [if_pos c2]; exact key true (fun h => by cases h)
  · simp only [if_neg c2]
    refine key _ (fun h => ?_)
    have := of_decide_eq_false h
    omega

end Go.Proofs.YthajpckfodhhpaaDoor.Pure
