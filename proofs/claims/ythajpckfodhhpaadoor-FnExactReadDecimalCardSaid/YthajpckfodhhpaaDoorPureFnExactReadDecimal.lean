/- The program's ReadDecimal reads of every text what the reference's ReadDecimal reads (texts past the law's bound answer true at once).
No condition beyond those of the given row. -/
import Derived.Test.YthajpckfodhhpaaDoorQNumx0
import Derived.Test.YthajpckfodhhpaaDoorQNumx1
import Derived.Test.YthajpckfodhhpaaDoorStFnExactReadDecimal
import Derived.Test.YthajpckfodhhpaaDoorPlain
namespace Go.Proofs.YthajpckfodhhpaaDoor.Pure
open Go.RowKit Go.Proofs.YthajpckfodhhpaaDoor.QNum Go.Proofs.YthajpckfodhhpaaDoor.Plain Go.Proofs.YthajpckfodhhpaaDoorW.PrintWords Go.Proofs.YthajpckfodhhpaaDoorW.PrintLast Go.Proofs.YthajpckfodhhpaaDoorW.PrintMore
set_option linter.unusedSimpArgs false
set_option linter.unusedVariables false

/-- A figure to the base sixteen. -/
def fig (v : Int) : Int := if v < 10 then 48 + v else 87 + v
/-- The figures of the bytes from i on. -/
def hexL (s : ByteArray) : Nat → Nat → List Int → List Int
  | 0, _, out => out
  | d + 1, i, out => hexL s d (i + 1) (out ++ [fig (bt s i / 16), fig (bt s i % 16)])
theorem bt_rng (s : ByteArray) (i : Int) : 0 ≤ bt s i ∧ bt s i < 256 := by
  unfold bt
  split
  · rename_i h
    have := UInt8.toNat_lt (s[i.toNat]'h)
    omega
  · omega
theorem td {n : Int} (m : Int) (h : 0 ≤ n) (hm : 0 < m) : Int.tdiv n m = n / m := Int.tdiv_eq_ediv_of_nonneg h
theorem tm {n : Int} (m : Int) (h : 0 ≤ n) : Int.tmod n m = n % m := Int.tmod_eq_emod_of_nonneg h

theorem toL (s : ByteArray) : s.toList = s.data.toList := ByteArray.toList_eq s
theorem ext_eq {a b : ByteArray} (h : a.toList = b.toList) : a = b := by
  rw [toL, toL] at h
  cases a; cases b; simp at h; rw [h]
theorem len_toL (s : ByteArray) : s.toList.length = s.size := by rw [toL, Array.length_toList]; rfl
theorem app_toL (a b : ByteArray) : (a ++ b).toList = a.toList ++ b.toList := by
  simp only [toL]; simp
theorem ext_toL (s : ByteArray) (a b : Nat) : (s.extract a b).toList = (s.toList.drop a).take (b - a) := by
  rw [toL, toL]; simp

theorem spec_figure (v : Int) (h : 0 ≤ v ∧ v < 10) : spec_l01Figure.f v = some (48 + v) := by
  unfold spec_l01Figure.f
  simp only [if_pos h.2, wi (n := 48 + v) (by omega)]
  congr 1; omega
/-- A text of these bytes. -/
def bl (l : List UInt8) : ByteArray := ⟨l.toArray⟩
theorem bl_toL (l : List UInt8) : (bl l).toList = l := by rw [toL]; rfl
theorem bl_size (l : List UInt8) : (bl l).size = l.length := by unfold bl; simp [ByteArray.size]
theorem bl_cons (v : Int) (h : 0 ≤ v ∧ v < 256) (l : List UInt8) : strOfNums [v] ++ bl l = bl (UInt8.ofNat v.toNat :: l) := by
  apply ext_eq
  rw [app_toL, Lib.strOfNums_toList, bl_toL, bl_toL]
  simp [Lib.bytesOf]
theorem decDigits_step (u : Nat) (h : ¬ u < 10) : Lib.decDigits u = Lib.decDigits (u / 10) ++ [UInt8.ofNat (48 + u % 10)] := by
  rw [Lib.decDigits, dif_neg h]
theorem spec_Dec_end (b : Bool) (l : List UInt8) (hl : l.length ≤ 1000) : Ev (fun k => spec_Decimal.l0 k 0 b (bl l)) (bl (if b = true then 45 :: l else l)) := by
  refine Ev.step (fun k => rfl) ?_
  simp only [spec_Decimal.l0, if_true]
  cases b
  · simp only [Bool.false_eq_true, if_false]; exact Ev.now _
  · simp only [if_true, if_pos (show 1 + (bl l).size ≤ 9223372036854775807 by rw [bl_size]; omega)]
    rw [show (⟨#[45]⟩ : ByteArray) ++ bl l = bl (45 :: l) from ext_eq (by rw [app_toL, bl_toL, bl_toL, toL]; rfl)]
    exact Ev.now _
theorem spec_Dec_l0 (b : Bool) : ∀ (j : Nat) (x : Int) (l : List UInt8), x.natAbs < 10 ^ j → x ≠ 0 → l.length + j ≤ 1000 → (-9223372036854775808 ≤ x ∧ x ≤ 9223372036854775807) →
    Ev (fun k => spec_Decimal.l0 k x b (bl l)) (bl (if b = true then 45 :: (Lib.decDigits x.natAbs ++ l) else Lib.decDigits x.natAbs ++ l))
  | 0, x, l, h, h0, hl, hr => by simp at h; omega
  | j + 1, x, l, h, h0, hl, hr => by
    refine Ev.step (fun k => rfl) ?_
    have e1 : (Int.tmod x 10).natAbs = x.natAbs % 10 := by rw [Int.natAbs_tmod]; rfl
    have e2 : (Int.tdiv x 10).natAbs = x.natAbs / 10 := by rw [Int.natAbs_tdiv]; rfl
    have hv : x.natAbs % 10 < 10 := Nat.mod_lt _ (by omega)
    have key : Ev (fun k => if (strOfNums ([48 + ((x.natAbs % 10 : Nat) : Int)] : List Int)).size + (bl l).size ≤ 9223372036854775807 then spec_Decimal.l0 k (wrap64 (Int.tdiv x 10)) b (strOfNums ([48 + ((x.natAbs % 10 : Nat) : Int)] : List Int) ++ bl l) else none) (bl (if b = true then 45 :: (Lib.decDigits x.natAbs ++ l) else Lib.decDigits x.natAbs ++ l)) := by
      have hs : (strOfNums ([48 + ((x.natAbs % 10 : Nat) : Int)] : List Int)).size = 1 := by rw [← len_toL, Lib.strOfNums_toList]; simp [Lib.bytesOf]
      simp only [if_pos (show (strOfNums ([48 + ((x.natAbs % 10 : Nat) : Int)] : List Int)).size + (bl l).size ≤ 9223372036854775807 by rw [hs, bl_size]; omega)]
      rw [bl_cons (48 + ((x.natAbs % 10 : Nat) : Int)) (by omega) l, wi (n := Int.tdiv x 10) (by omega)]
      have e3 : UInt8.ofNat (48 + ((x.natAbs % 10 : Nat) : Int)).toNat = UInt8.ofNat (48 + x.natAbs % 10) := by congr 1
      rw [e3]
      by_cases c : x.natAbs < 10
      · have hz : Int.tdiv x 10 = 0 := by omega
        rw [hz]
        have := spec_Dec_end b (UInt8.ofNat (48 + x.natAbs % 10) :: l) (by simp; omega)
        rw [Lib.decDigits, dif_pos c]
        rw [show x.natAbs % 10 = x.natAbs by omega] at this ⊢
        simpa using this
      · have ih := spec_Dec_l0 b j (Int.tdiv x 10) (UInt8.ofNat (48 + x.natAbs % 10) :: l) (by rw [e2]; rw [Nat.pow_succ] at h; omega) (by omega) (by simp; omega) (by omega)
        rw [e2] at ih
        rw [decDigits_step _ c]
        simpa using ih
    simp only [spec_Decimal.l0, if_neg h0]
    by_cases c : Int.tmod x 10 < 0
    · simp only [if_pos c, wi (n := ((x.natAbs % 10 : Nat) : Int)) (by omega), show -(Int.tmod x 10) = ((x.natAbs % 10 : Nat) : Int) by omega, spec_figure _ (show 0 ≤ ((x.natAbs % 10 : Nat) : Int) ∧ ((x.natAbs % 10 : Nat) : Int) < 10 by omega), Option.bind_some]
      exact key
    · simp only [if_neg c, show Int.tmod x 10 = ((x.natAbs % 10 : Nat) : Int) by omega, spec_figure _ (show 0 ≤ ((x.natAbs % 10 : Nat) : Int) ∧ ((x.natAbs % 10 : Nat) : Int) < 10 by omega), Option.bind_some]
      exact key
theorem spec_Decimal_ev (n : Int) (h : -9223372036854775808 ≤ n ∧ n ≤ 9223372036854775807) : Ev (fun k => spec_Decimal.f k n) (bl (Lib.itoa n)) := by
  unfold spec_Decimal.f
  by_cases c : n = 0
  · subst c
    simp only [if_true]
    rw [show bl (Lib.itoa 0) = (⟨#[48]⟩ : ByteArray) by unfold Lib.itoa; rw [if_neg (by omega)]; rw [Lib.decDigits, dif_pos (by decide)]; rfl]
    exact Ev.now _
  · simp only [if_neg c]
    have := spec_Dec_l0 (decide (n < 0)) 20 n [] (by omega) c (by simp) h
    rw [show bl [] = (⟨#[]⟩ : ByteArray) from rfl] at this
    rw [show bl (Lib.itoa n) = bl (if decide (n < 0) = true then 45 :: (Lib.decDigits n.natAbs ++ []) else Lib.decDigits n.natAbs ++ []) by
      unfold Lib.itoa
      by_cases d : n < 0
      · rw [if_pos d, decide_eq_true d, if_pos rfl, List.append_nil]
      · rw [if_neg d, decide_eq_false d, if_neg (by decide), List.append_nil, show n.toNat = n.natAbs by omega]]
    exact this

theorem bt_toL (s : ByteArray) (i : Nat) (h : i < s.size) : bt s (i : Int) = ((s.toList.getD i 0).toNat : Int) := by
  unfold bt
  have e : s.toList.getD i 0 = s[i] := by
    rw [toL, List.getD_eq_getElem?_getD, Array.getElem?_toList]
    have : s.data[i]? = some s[i] := by rw [Array.getElem?_eq_getElem (show i < s.data.size from h)]; rfl
    rw [this]; rfl
  rw [e]
  simp [h]
theorem dg_digit : ∀ (u : Nat), ∀ c ∈ Lib.decDigits u, 48 ≤ c.toNat ∧ c.toNat ≤ 57 := by
  intro u
  induction u using Nat.strongRecOn with
  | _ u ih =>
    intro c hc
    by_cases h : u < 10
    · rw [Lib.decDigits, dif_pos h] at hc
      obtain rfl := List.mem_singleton.1 hc
      simp; omega
    · rw [decDigits_step u h] at hc
      rcases List.mem_append.1 hc with hc | hc
      · exact ih (u / 10) (by omega) c hc
      · obtain rfl := List.mem_singleton.1 hc
        simp; omega
theorem dg_len : ∀ (j u : Nat), u < 10 ^ (j + 1) → (Lib.decDigits u).length ≤ j + 1
  | 0, u, h => by rw [Lib.decDigits, dif_pos (by simpa using h)]; simp
  | j + 1, u, h => by
    by_cases c : u < 10
    · rw [Lib.decDigits, dif_pos c]; simp
    · rw [decDigits_step u c, List.length_append]
      have := dg_len j (u / 10) (by rw [Nat.pow_succ] at h; omega)
      simp; omega
theorem dg_ne (u : Nat) : Lib.decDigits u ≠ [] := by
  by_cases c : u < 10
  · rw [Lib.decDigits, dif_pos c]; simp
  · rw [decDigits_step u c]; simp
theorem parse_app : ∀ (l : List UInt8) (acc n : Nat) (c : UInt8), Lib.parseUint10 acc l = .ok n → 48 ≤ c.toNat ∧ c.toNat ≤ 57 → n < 1000000000000 → Lib.parseUint10 acc (l ++ [c]) = .ok (n * 10 + (c.toNat - 48))
  | [], acc, n, c, h, hc, hn => by
    simp only [Lib.parseUint10] at h
    injection h with h
    subst h
    simp only [List.nil_append, Lib.parseUint10, if_pos hc, if_neg (show ¬ 1844674407370955162 ≤ acc by omega), if_neg (show ¬ 18446744073709551616 ≤ acc * 10 + (c.toNat - 48) by omega)]
  | x :: r, acc, n, c, h, hc, hn => by
    simp only [Lib.parseUint10, List.cons_append] at h ⊢
    split at h
    · rename_i h1
      rw [if_pos h1]
      split at h
      · cases h
      · rename_i h2
        rw [if_neg h2]
        split at h
        · cases h
        · rename_i h3
          rw [if_neg h3]
          exact parse_app r _ n c h hc hn
    · cases h
theorem dg_parse : ∀ (u : Nat), u ≤ 1000000000 → Lib.parseUint10 0 (Lib.decDigits u) = .ok u := by
  intro u
  induction u using Nat.strongRecOn with
  | _ u ih =>
    intro hu
    by_cases h : u < 10
    · rw [Lib.decDigits, dif_pos h]
      have e : (UInt8.ofNat (48 + u)).toNat = 48 + u := by simp; omega
      simp only [Lib.parseUint10, e, if_pos (show 48 ≤ 48 + u ∧ 48 + u ≤ 57 by omega), if_neg (show ¬ 1844674407370955162 ≤ 0 by omega), if_neg (show ¬ 18446744073709551616 ≤ 0 * 10 + (48 + u - 48) by omega)]
      congr 1; omega
    · rw [decDigits_step u h]
      have e : (UInt8.ofNat (48 + u % 10)).toNat = 48 + u % 10 := by simp; omega
      rw [parse_app _ 0 (u / 10) _ (ih (u / 10) (by omega) (by omega)) (by rw [e]; omega) (by omega), e]
      congr 1; omega
theorem itoa_pos {v : Int} (h : 0 ≤ v) : Lib.itoa v = Lib.decDigits v.toNat := by unfold Lib.itoa; rw [if_neg (by omega)]
theorem atoi_itoa {v : Int} (h : 0 ≤ v ∧ v ≤ 1000000000) : Lib.atoiAll (Lib.itoa v) = .ok v := by
  rw [itoa_pos h.1]
  have hp := dg_parse v.toNat (by omega)
  have hd := dg_digit v.toNat
  have hne := dg_ne v.toNat
  generalize Lib.decDigits v.toNat = l at hp hd hne
  cases l with
  | nil => exact absurd rfl hne
  | cons c r =>
    have hc := hd c (List.mem_cons_self)
    rw [Lib.atoiAll_plain c r (by omega) (by omega)]
    unfold Lib.parseMag
    rw [if_neg hne, hp]
    simp only [Lib.signless, if_neg (show ¬ 9223372036854775808 ≤ v.toNat by omega)]
    congr 1; omega
/-- What is read of the digits l, n read before them. -/
def rdL (full : List UInt8) : List UInt8 → Int → Int × Bool
  | [], n => if n > 1000000000 then (0, false) else if Lib.itoa n = full then (n, true) else (0, false)
  | c :: r, n => if (c.toNat : Int) < 48 then (0, false) else if (c.toNat : Int) > 57 then (0, false) else rdL full r (10 * n + c.toNat - 48)
theorem rdL_or (full : List UInt8) : ∀ (l : List UInt8) (n : Int), 0 ≤ n → rdL full l n = (0, false) ∨ ∃ v, 0 ≤ v ∧ v ≤ 1000000000 ∧ Lib.itoa v = full ∧ rdL full l n = (v, true)
  | [], n, hn => by
    unfold rdL
    by_cases c : n > 1000000000
    · rw [if_pos c]; exact Or.inl rfl
    · rw [if_neg c]
      by_cases d : Lib.itoa n = full
      · rw [if_pos d]; exact Or.inr ⟨n, hn, by omega, d, rfl⟩
      · rw [if_neg d]; exact Or.inl rfl
  | c :: r, n, hn => by
    unfold rdL
    by_cases c1 : (c.toNat : Int) < 48
    · rw [if_pos c1]; exact Or.inl rfl
    · rw [if_neg c1]
      by_cases c2 : (c.toNat : Int) > 57
      · rw [if_pos c2]; exact Or.inl rfl
      · rw [if_neg c2]; exact rdL_or full r _ (by omega)
theorem rdL_app (full : List UInt8) (t : List UInt8) : ∀ (l : List UInt8) (n : Int), (∀ c ∈ l, 48 ≤ c.toNat ∧ c.toNat ≤ 57) → rdL full (l ++ t) n = rdL full t (l.foldl (fun a c => 10 * a + c.toNat - 48) n)
  | [], n, h => rfl
  | c :: r, n, h => by
    have hc := h c (List.mem_cons_self)
    rw [List.cons_append, rdL, if_neg (by omega), if_neg (by omega), rdL_app full t r _ (fun x hx => h x (List.mem_cons_of_mem _ hx))]
    rfl
theorem dg_fold : ∀ (u : Nat), (Lib.decDigits u).foldl (fun (a : Int) c => 10 * a + c.toNat - 48) 0 = u := by
  intro u
  induction u using Nat.strongRecOn with
  | _ u ih =>
    by_cases h : u < 10
    · rw [Lib.decDigits, dif_pos h]
      simp; omega
    · rw [decDigits_step u h, List.foldl_append, ih (u / 10) (by omega)]
      simp; omega
theorem rdL_itoa {v : Int} (h : 0 ≤ v ∧ v ≤ 1000000000) : rdL (Lib.itoa v) (Lib.itoa v) 0 = (v, true) := by
  have := rdL_app (Lib.itoa v) [] (Lib.itoa v) 0 (by rw [itoa_pos h.1]; exact dg_digit _)
  rw [List.append_nil] at this
  rw [this]
  have e : (Lib.itoa v).foldl (fun (a : Int) c => 10 * a + c.toNat - 48) 0 = v := by rw [itoa_pos h.1, dg_fold]; omega
  rw [e, rdL, if_neg (by omega), if_pos rfl]
theorem readDec_eq (s : ByteArray) (hs : s.size ≤ 10) : readDec s = rdL s.toList s.toList 0 := by
  rcases rdL_or s.toList s.toList 0 (by omega) with h | ⟨v, h0, h1, h2, h3⟩
  · rw [h]
    unfold readDec
    split
    · rename_i v hv
      by_cases c : 0 ≤ v ∧ v ≤ 1000000000 ∧ (⟨(Lib.itoa v).toArray⟩ : ByteArray) = s
      · have e : Lib.itoa v = s.toList := by rw [← c.2.2, toL]
        rw [← e, rdL_itoa ⟨c.1, c.2.1⟩] at h
        cases h
      · rw [if_neg c]
    · rfl
  · rw [h3]
    unfold readDec
    rw [← toL, ← h2, atoi_itoa ⟨h0, h1⟩]
    simp only
    rw [if_pos ⟨h0, h1, ext_eq (by rw [toL, h2])⟩]
theorem readDec_long (s : ByteArray) (hs : ¬ s.size ≤ 10) : readDec s = (0, false) := by
  unfold readDec
  split
  · rename_i v hv
    rw [if_neg]
    rintro ⟨h0, h1, h2⟩
    have := dg_len 9 v.toNat (by omega)
    rw [← itoa_pos h0] at this
    have e : (⟨(Lib.itoa v).toArray⟩ : ByteArray).size = (Lib.itoa v).length := by simp [ByteArray.size]
    rw [h2] at e
    omega
  · rfl
theorem spec_RD_l0 (s : ByteArray) (hs : s.size ≤ 10) : ∀ d i (n : Int), i + d = s.size → 0 ≤ n → n < 10 ^ i → Ev (fun k => spec_ReadDecimal.l0 k s n (i : Int)) (rdL s.toList (s.toList.drop i) n)
  | 0, i, n, hi, h0, hn => by
    refine Ev.step (fun k => rfl) ?_
    rw [List.drop_eq_nil_of_le (by rw [len_toL]; omega)]
    simp only [spec_ReadDecimal.l0, if_neg (show ¬ (i : Int) < (s.size : Int) by omega), rdL]
    by_cases c : n > 1000000000
    · simp only [if_pos c]; exact Ev.now _
    · simp only [if_neg c]
      refine Ev.bind (spec_Decimal_ev n (by omega)) ?_
      rw [bl_toL]
      by_cases d : Lib.itoa n = s.toList
      · simp only [if_pos d]; exact Ev.now _
      · simp only [if_neg d]; exact Ev.now _
  | d + 1, i, n, hi, h0, hn => by
    refine Ev.step (fun k => rfl) ?_
    have hb := bt_rng s i
    have hp : (10 : Int) ^ i ≤ 10 ^ 10 := by
      have : (10 : Nat) ^ i ≤ 10 ^ 10 := Nat.pow_le_pow_right (by omega) (by omega)
      exact_mod_cast this
    rw [drop_getD s.toList i 0 (by rw [len_toL]; omega), rdL, ← bt_toL s i (by omega)]
    simp only [spec_ReadDecimal.l0, if_pos (show (i : Int) < (s.size : Int) by omega), if_pos (show (0 : Int) ≤ (i : Int) by omega), wr i (by omega)]
    by_cases c1 : bt s (i : Int) < 48
    · simp only [if_pos c1]; exact Ev.now _
    · simp only [if_neg c1]
      by_cases c2 : bt s (i : Int) > 57
      · simp only [if_pos c2]; exact Ev.now _
      · simp only [if_neg c2, wi (n := 10 * n) (by omega), wi (n := bt s (i : Int)) (by omega), wi (n := 10 * n + bt s (i : Int)) (by omega), wi (n := 10 * n + bt s (i : Int) - 48) (by omega)]
        exact spec_RD_l0 s hs d (i + 1) _ (by omega) (by omega) (by rw [Int.pow_succ]; omega)
theorem spec_ReadDecimal_ev (s : ByteArray) : Ev (fun k => spec_ReadDecimal.f k s) (readDec s) := by
  unfold spec_ReadDecimal.f
  by_cases c : (s.size : Int) > 10
  · simp only [if_pos c]
    rw [readDec_long s (by omega)]
    exact Ev.now _
  · simp only [if_neg c]
    rw [readDec_eq s (by omega)]
    have := spec_RD_l0 s (by omega) s.size 0 0 (by omega) (by omega) (by simp)
    simpa using this

theorem FnExactReadDecimal : laws_FnExactReadDecimal.Pure := by
  intro s hs
  refine Ev.rounds ?_
  unfold laws_FnExactReadDecimal.f
  by_cases h : (s.size : Int) > 1048576
  · simp only [if_pos h]; exact Ev.now _
  · simp only [if_neg h]
    refine Ev.bind (spec_ReadDecimal_ev s) ?_
    simp only [impl_ReadDecimal.f, if_pos (show s.size ≤ 140737488351232 by omega), Option.bind_some, if_true, bne_self_eq_false, Bool.false_eq_true, if_false]
    exact Ev.now _

end Go.Proofs.YthajpckfodhhpaaDoor.Pure
