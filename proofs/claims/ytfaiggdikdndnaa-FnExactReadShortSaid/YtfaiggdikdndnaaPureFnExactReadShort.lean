/- The program's ReadShort tells of every text and place what the reference's ReadShort tells.
No condition beyond those of the given row. -/
import Derived.Test.YtfaiggdikdndnaaPFnExactReadShortx0
import Derived.Test.YtfaiggdikdndnaaPFnExactReadShortx1
import Derived.Test.YtfaiggdikdndnaaPFnExactReadShortx2
import Derived.Test.YtfaiggdikdndnaaPlain
namespace Go.Proofs.Ytfaiggdikdndnaa.Pure
open Go.RowKit Go.Proofs.Ytfaiggdikdndnaa.PFnExactReadShort Go.Proofs.Ytfaiggdikdndnaa.Plain Go.Proofs.YtfaiggdikdndnaaW.PrintWords Go.Proofs.YtfaiggdikdndnaaW.PrintLast Go.Proofs.YtfaiggdikdndnaaW.PrintMore

/-- The bytes of a number, lowest seven bits first. -/
def varL : Nat → Int → List Int
  | 0, x => [x % 256]
  | d + 1, x => if x > 127 then (x % 128 + 128) :: varL d (x / 128) else [x % 256]
def big (d : Nat) : Int := 128 ^ d
theorem big_succ (d : Nat) : big (d + 1) = 128 * big d := by unfold big; rw [Int.pow_succ]; omega
theorem big_pos (d : Nat) : 0 < big d := by unfold big; exact Int.pow_pos (by omega)
theorem big_zero : big 0 = 1 := rfl
theorem varL_len : ∀ d x, (varL d x).length ≤ d + 1
  | 0, x => by simp [varL]
  | d + 1, x => by
    have := varL_len d (x / 128)
    unfold varL
    split <;> simp <;> omega

/-- The text of a number. -/
def varT (x : Int) : ByteArray := strOfNums (varL 9 x)

theorem toL (s : ByteArray) : s.toList = s.data.toList := ByteArray.toList_eq s
theorem ext_eq {a b : ByteArray} (h : a.toList = b.toList) : a = b := by
  rw [toL, toL] at h
  cases a; cases b; simp at h; rw [h]
theorem len_toL (s : ByteArray) : s.toList.length = s.size := by rw [toL, Array.length_toList]; rfl
theorem app_toL (a b : ByteArray) : (a ++ b).toList = a.toList ++ b.toList := by
  simp only [toL]; simp
theorem ext_toL (s : ByteArray) (a b : Nat) : (s.extract a b).toList = (s.toList.drop a).take (b - a) := by
  rw [toL, toL]; simp

/-- What is read of a number's bytes: d more bytes may come, i have been read (each above 127), n is their number. -/
def rvF (s : ByteArray) (at_ : Nat) : Nat → Nat → Int → Int × Int × Bool
  | 0, _, _ => (0, 0, false)
  | d + 1, i, n =>
    if at_ + i < s.size then
      if bt s ((at_ + i : Nat) : Int) > 127 then rvF s at_ d (i + 1) (n + bt s ((at_ + i : Nat) : Int) % 128 * big i)
      else if (i > 0 ∧ bt s ((at_ + i : Nat) : Int) = 0) ∨ n + bt s ((at_ + i : Nat) : Int) % 128 * big i > 1000000000 then (0, 0, false)
      else (n + bt s ((at_ + i : Nat) : Int) % 128 * big i, ((at_ + i + 1 : Nat) : Int), true)
    else (0, 0, false)
/-- ReadVar. -/
def rvT (s : ByteArray) (at_ : Int) : Int × Int × Bool := if inB at_ 0 (s.size : Int) = true then rvF s at_.toNat 5 0 0 else (0, 0, false)
theorem big_vals : big 0 = 1 ∧ big 1 = 128 ∧ big 2 = 16384 ∧ big 3 = 2097152 ∧ big 4 = 268435456 ∧ big 5 = 34359738368 := by unfold big; omega
theorem shl_big (x : Int) (hx : 0 ≤ x ∧ x ≤ 127) (i : Nat) (hi : i < 5) : shl .i64 x (wrap64 (7 * (i : Int))) = x * big i := by
  rw [wi (n := 7 * (i : Int)) (by omega)]
  unfold shl
  obtain ⟨e0, e1, e2, e3, e4, _⟩ := big_vals
  have h : i = 0 ∨ i = 1 ∨ i = 2 ∨ i = 3 ∨ i = 4 := by omega
  rcases h with rfl | rfl | rfl | rfl | rfl
  · rw [e0, show x * 2 ^ (min (7 * ((0 : Nat) : Int)).toNat IntKind.i64.bits) = x * 1 by rfl, IntKind.wrap_i64]; omega
  · rw [e1, show x * 2 ^ (min (7 * ((1 : Nat) : Int)).toNat IntKind.i64.bits) = x * 128 by rfl, IntKind.wrap_i64]; omega
  · rw [e2, show x * 2 ^ (min (7 * ((2 : Nat) : Int)).toNat IntKind.i64.bits) = x * 16384 by rfl, IntKind.wrap_i64]; omega
  · rw [e3, show x * 2 ^ (min (7 * ((3 : Nat) : Int)).toNat IntKind.i64.bits) = x * 2097152 by rfl, IntKind.wrap_i64]; omega
  · rw [e4, show x * 2 ^ (min (7 * ((4 : Nat) : Int)).toNat IntKind.i64.bits) = x * 268435456 by rfl, IntKind.wrap_i64]; omega
/-- The sum stays below the next step. -/
theorem big_step (n b : Int) (i : Nat) (hn : 0 ≤ n ∧ n < big i) (hb : 0 ≤ b ∧ b ≤ 127) : 0 ≤ n + b * big i ∧ n + b * big i < big (i + 1) := by
  have hp := big_pos i
  rw [big_succ]
  have h1 : b * big i ≤ 127 * big i := Int.mul_le_mul_of_nonneg_right hb.2 (by omega)
  have h2 : 0 ≤ b * big i := Int.mul_nonneg hb.1 (by omega)
  omega
theorem big_le (i : Nat) (hi : i ≤ 5) : big i ≤ 34359738368 := by
  obtain ⟨e0, e1, e2, e3, e4, e5⟩ := big_vals
  have h : i = 0 ∨ i = 1 ∨ i = 2 ∨ i = 3 ∨ i = 4 ∨ i = 5 := by omega
  rcases h with rfl | rfl | rfl | rfl | rfl | rfl <;> omega

def shortT (s : ByteArray) : ByteArray × Bool := if (s.size : Int) > 20000 then ((⟨#[]⟩ : ByteArray), false) else (varT (s.size : Int) ++ s, true)
theorem strOfNums_len (l : List Int) : (strOfNums l).size = l.length := by
  unfold strOfNums; simp [ByteArray.size]
theorem varT_size (x : Int) : (varT x).size ≤ 10 := by
  unfold varT; rw [strOfNums_len]; exact varL_len 9 x

/-- The bytes read so far are those of every number that goes on with them. -/
structure Canon (s : ByteArray) (at_ i : Nat) (n : Int) (pre : List Int) : Prop where
  bytes : Lib.bytesOf pre = (s.toList.drop at_).take i
  len : pre.length = i
  goes : ∀ (v : Int) (d : Nat), 0 < v → varL (d + i) (n + big i * v) = pre ++ varL d v
theorem canon_zero (s : ByteArray) (at_ : Nat) : Canon s at_ 0 0 [] := ⟨by simp [Lib.bytesOf], rfl, fun v d _ => by rw [big_zero]; simp⟩
theorem take_bt (s : ByteArray) (at_ i : Nat) (h : at_ + i < s.size) : (s.toList.drop at_).take (i + 1) = (s.toList.drop at_).take i ++ [UInt8.ofNat (bt s ((at_ + i : Nat) : Int)).toNat] := by
  have hl : i < (s.toList.drop at_).length := by rw [List.length_drop, len_toL]; omega
  rw [List.take_succ_eq_append_getElem hl]
  congr 2
  rw [List.getElem_drop]
  unfold bt
  rw [Int.toNat_natCast, dif_pos h, Int.toNat_natCast, UInt8.ofNat_toNat]
  have := toL s
  simp only [this]
  rfl
theorem canon_step {s : ByteArray} {at_ i : Nat} {n : Int} {pre : List Int} (h : Canon s at_ i n pre) (hs : at_ + i < s.size) (hb : bt s ((at_ + i : Nat) : Int) > 127) :
    Canon s at_ (i + 1) (n + bt s ((at_ + i : Nat) : Int) % 128 * big i) (pre ++ [bt s ((at_ + i : Nat) : Int)]) := by
  have hr := bt_range s ((at_ + i : Nat) : Int)
  refine ⟨?_, by simp [h.len], fun v d hv => ?_⟩
  · rw [take_bt s at_ i hs, ← h.bytes]; simp [Lib.bytesOf]
  · generalize hB : bt s ((at_ + i : Nat) : Int) = B at hb hr ⊢
    have e : n + B % 128 * big i + big (i + 1) * v = n + big i * (B % 128 + 128 * v) := by
      rw [big_succ, Int.mul_add, Int.mul_comm (B % 128), Int.mul_comm 128 (big i), Int.mul_assoc]; omega
    rw [e, show d + (i + 1) = (d + 1) + i by omega, h.goes _ (d + 1) (by omega)]
    have e2 : varL (d + 1) (B % 128 + 128 * v) = B :: varL d v := by
      rw [varL, if_pos (by omega), show (B % 128 + 128 * v) % 128 + 128 = B by omega, show (B % 128 + 128 * v) / 128 = v by omega]
    rw [e2, List.append_assoc]; rfl
theorem varL_short : ∀ (d i : Nat) (x : Int), x < big (i + 1) → (varL d x).length ≤ i + 1
  | 0, _, _, _ => by simp [varL]
  | d + 1, 0, x, h => by
    rw [big_succ, big_zero] at h
    rw [varL, if_neg (by omega)]; simp
  | d + 1, i + 1, x, h => by
    rw [big_succ] at h
    have := varL_short d i (x / 128) (by omega)
    unfold varL
    split <;> simp <;> omega
theorem varL_small (d : Nat) (x : Int) (h : 0 ≤ x ∧ x ≤ 127) : varL d x = [x] := by
  cases d with
  | zero => simp [varL]; omega
  | succ d => rw [varL, if_neg (by omega)]; simp; omega
theorem strOf_toL (l : List Int) : (strOfNums l).toList = Lib.bytesOf l := by rw [toL, strOfNums_data]; rfl
/-- What ends in a byte below 128 is a number's text just if that byte is not a needless nought. -/
theorem canon_end {s : ByteArray} {at_ i : Nat} {n : Int} {pre : List Int} (h : Canon s at_ i n pre) (hs : at_ + i < s.size) (hb : bt s ((at_ + i : Nat) : Int) ≤ 127) (hi : i ≤ 9) (hn : 0 ≤ n ∧ n < big i) :
    (varT (n + bt s ((at_ + i : Nat) : Int) % 128 * big i)).toList = (s.extract at_ (at_ + i + 1)).toList ↔ ¬ (i > 0 ∧ bt s ((at_ + i : Nat) : Int) = 0) := by
  have hr := bt_range s ((at_ + i : Nat) : Int)
  have e1 : (s.extract at_ (at_ + i + 1)).toList = Lib.bytesOf (pre ++ [bt s ((at_ + i : Nat) : Int)]) := by
    rw [ext_toL, show at_ + i + 1 - at_ = i + 1 by omega, take_bt s at_ i hs, ← h.bytes]; simp [Lib.bytesOf]
  rw [e1]
  generalize hB : bt s ((at_ + i : Nat) : Int) = B at hb hr ⊢
  rw [show B % 128 = B by omega]
  unfold varT
  rw [strOf_toL]
  by_cases c : B = 0
  · subst c
    rw [Int.zero_mul, Int.add_zero]
    rcases Nat.eq_zero_or_pos i with h0 | h0
    · subst h0
      rw [big_zero] at hn
      obtain rfl : n = 0 := by omega
      have : pre = [] := List.eq_nil_of_length_eq_zero h.len
      subst this
      rw [varL_small _ _ (by omega)]
      simp
    · constructor
      · intro he
        have hl := congrArg List.length he
        rw [Lib.bytesOf_length, Lib.bytesOf_length, List.length_append, h.len] at hl
        obtain ⟨j, rfl⟩ : ∃ j, i = j + 1 := ⟨i - 1, by omega⟩
        have := varL_short 9 j n hn.2
        simp at hl; omega
      · intro he; exact absurd ⟨h0, rfl⟩ he
  · have e2 := h.goes B (9 - i) (by omega)
    rw [show 9 - i + i = 9 by omega, Int.mul_comm (big i) B, varL_small (9 - i) B (by omega)] at e2
    rw [e2]
    simp [c]

theorem spec_in (x lo hi : Int) : spec_l01In.f x lo hi = some (inB x lo hi) := in_ite x lo hi

theorem spec_l01Var_l0 : ∀ (d : Nat) (x : Int) (out : List Int), 0 ≤ x → x ≤ 9223372036854775807 → x < 128 * big d → out.length + d ≤ 100 → Ev (fun k => spec_l01Var.l0 k x out) (strOfNums (out ++ varL d x))
  | 0, x, out, h0, hm, hx, hl => by
    refine Ev.step (fun k => rfl) ?_
    rw [big_zero] at hx
    simp only [spec_l01Var.l0, if_neg (show ¬ x > 127 by omega), if_pos (show out.length < 140737488355328 by omega), varL]
    exact Ev.now _
  | d + 1, x, out, h0, hm, hx, hl => by
    refine Ev.step (fun k => rfl) ?_
    rw [big_succ] at hx
    by_cases c : x > 127
    · have e1 : wrap64 (Int.tdiv x 128) = x / 128 := by rw [Int.tdiv_eq_ediv_of_nonneg h0]; exact wi (by omega)
      have e2 : (wrap64 ((Int.tmod x 128) + 128)) % 256 = x % 128 + 128 := by rw [Int.tmod_eq_emod_of_nonneg h0, wi (by omega)]; omega
      have ih := spec_l01Var_l0 d (x / 128) (out ++ [x % 128 + 128]) (by omega) (by omega) (by omega) (by simp; omega)
      simp only [spec_l01Var.l0, if_pos c, if_pos (show out.length < 140737488355328 by omega), e1, e2, varL]
      simpa using ih
    · simp only [spec_l01Var.l0, if_neg c, if_pos (show out.length < 140737488355328 by omega), varL]
      exact Ev.now _
theorem spec_l01Var_ev (x : Int) (h0 : 0 ≤ x) (hm : x ≤ 9223372036854775807) : Ev (fun k => spec_l01Var.f k x) (varT x) :=
  spec_l01Var_l0 9 x [] h0 hm (by unfold big; omega) (by simp)

theorem spec_ReadVar_l0 (s : ByteArray) (hs : s.size ≤ 140737488351232) (at_ : Nat) (ha : at_ ≤ s.size) : ∀ (d i : Nat) (n : Int) (pre : List Int), i + d = 5 → 0 ≤ n ∧ n < big i → Canon s at_ i n pre → Ev (fun k => spec_ReadVar.l0 k s (at_ : Int) n (big i) ((at_ + i : Nat) : Int)) (rvF s at_ d i n)
  | 0, i, n, pre, hi, hn, hc => by
    refine Ev.step (fun k => rfl) ?_
    simp only [spec_ReadVar.l0, wi (n := (at_ : Int) + 5) (by omega), show decide (((at_ + i : Nat) : Int) < (at_ : Int) + 5) = false from decide_eq_false (by omega), ite_self]
    refine Ev.step (fun k => rfl) ?_
    simp only [spec_ReadVar.j1, Bool.false_eq_true, if_false]
    exact Ev.now _
  | d + 1, i, n, pre, hi, hn, hc => by
    refine Ev.step (fun k => rfl) ?_
    simp only [spec_ReadVar.l0, wi (n := (at_ : Int) + 5) (by omega), show decide (((at_ + i : Nat) : Int) < (at_ : Int) + 5) = true from decide_eq_true (by omega), rvF]
    by_cases c : at_ + i < s.size
    · simp only [if_pos (show ((at_ + i : Nat) : Int) < (s.size : Int) by omega), if_pos c]
      refine Ev.step (fun k => rfl) ?_
      have hb := bt_range s ((at_ + i : Nat) : Int)
      have hst' := fun h => canon_step hc c h
      have hen := fun h => canon_end hc c h (by omega) hn
      generalize hB : bt s ((at_ + i : Nat) : Int) = B at hb hst' hen ⊢
      have e3 : Int.tmod B 128 = B % 128 := Int.tmod_eq_emod_of_nonneg hb.1
      have hbig := big_le (i + 1) (by omega)
      have hbig0 := big_pos i
      have hst := big_step n (B % 128) i hn (by omega)
      have hmul : 0 ≤ B % 128 * big i := Int.mul_nonneg (by omega) (by omega)
      have e4 : wrap64 (n + wrap64 ((Int.tmod B 128) * big i)) = n + B % 128 * big i := by
        rw [e3, wi (n := B % 128 * big i) (by omega), wi (by omega)]
      simp only [spec_ReadVar.j1, if_true, if_pos (show (0 : Int) ≤ ((at_ + i : Nat) : Int) by omega), if_pos (show ((at_ + i : Nat) : Int) < (s.size : Int) by omega), hB, wi (n := B) (by omega), e4, wr (at_ + i) (by omega)]
      by_cases c2 : B > 127
      · simp only [if_neg (show ¬ B < 128 by omega), if_pos c2]
        have e6 : wrap64 (big i * 128) = big (i + 1) := by rw [big_succ] at hbig ⊢; rw [wi (by omega)]; omega
        rw [e6]
        exact spec_ReadVar_l0 s hs at_ ha d (i + 1) _ _ (by omega) hst (hst' c2)
      · simp only [if_pos (show B < 128 by omega), if_neg c2]
        by_cases c5 : n + B % 128 * big i > 1000000000
        · simp only [if_pos c5, if_pos (show (i > 0 ∧ B = 0) ∨ n + B % 128 * big i > 1000000000 from Or.inr c5)]; exact Ev.now _
        · simp only [if_neg c5]
          refine Ev.bind (spec_l01Var_ev _ (by omega) (by omega)) ?_
          simp only [if_pos (show (0 : Int) ≤ (at_ : Int) by omega), if_pos (show (at_ : Int) ≤ ((at_ + i + 1 : Nat) : Int) by omega), if_pos (show ((at_ + i + 1 : Nat) : Int) ≤ (s.size : Int) by omega), Int.toNat_natCast]
          have he := hen (by omega)
          by_cases c6 : i > 0 ∧ B = 0
          · simp only [if_neg (fun h => (he.1 h) c6), if_pos (show (i > 0 ∧ B = 0) ∨ n + B % 128 * big i > 1000000000 from Or.inl c6)]; exact Ev.now _
          · simp only [if_pos (he.2 c6), if_neg (show ¬ ((i > 0 ∧ B = 0) ∨ n + B % 128 * big i > 1000000000) by omega)]; exact Ev.now _
    · simp only [if_neg (show ¬ ((at_ + i : Nat) : Int) < (s.size : Int) by omega), if_neg c]
      refine Ev.step (fun k => rfl) ?_
      simp only [spec_ReadVar.j1, Bool.false_eq_true, if_false]
      exact Ev.now _
theorem spec_ReadVar_ev (s : ByteArray) (hs : s.size ≤ 140737488351232) (at_ : Int) : Ev (fun k => spec_ReadVar.f k s at_) (rvT s at_) := by
  unfold spec_ReadVar.f rvT
  simp only [spec_in, Option.bind_some]
  by_cases c : inB at_ 0 (s.size : Int) = true
  · have h := inB_true.1 c
    simp only [if_pos c]
    obtain ⟨n, rfl⟩ := Int.eq_ofNat_of_zero_le h.1
    rw [Int.toNat_natCast]
    exact spec_ReadVar_l0 s hs n (by omega) 5 0 0 [] rfl (by rw [big_zero]; omega) (canon_zero s n)
  · simp only [if_neg c]; exact Ev.now _

/-- ReadShort. -/
def rsT (s : ByteArray) (at_ : Int) : ByteArray × Int × Bool :=
  if (rvT s at_).2.2 = true then
    if (rvT s at_).1 > 20000 then ((⟨#[]⟩ : ByteArray), 0, false)
    else if (rvT s at_).1 > (s.size : Int) - (rvT s at_).2.1 then ((⟨#[]⟩ : ByteArray), 0, false)
    else (s.extract (rvT s at_).2.1.toNat ((rvT s at_).2.1 + (rvT s at_).1).toNat, (rvT s at_).2.1 + (rvT s at_).1, true)
  else ((⟨#[]⟩ : ByteArray), 0, false)
theorem rvF_range (s : ByteArray) (at_ : Nat) : ∀ (d i : Nat) (n : Int), 0 ≤ n → 0 ≤ (rvF s at_ d i n).1 ∧ (rvF s at_ d i n).1 ≤ 1000000000 ∧ 0 ≤ (rvF s at_ d i n).2.1 ∧ (rvF s at_ d i n).2.1 ≤ (s.size : Int)
  | 0, _, _, _ => by simp [rvF]
  | d + 1, i, n, hn => by
    have hb := bt_range s ((at_ + i : Nat) : Int)
    have hp := big_pos i
    have hm : 0 ≤ bt s ((at_ + i : Nat) : Int) % 128 * big i := Int.mul_nonneg (by omega) (by omega)
    unfold rvF
    by_cases c : at_ + i < s.size
    · rw [if_pos c]
      by_cases c2 : bt s ((at_ + i : Nat) : Int) > 127
      · rw [if_pos c2]; exact rvF_range s at_ d (i + 1) _ (by omega)
      · rw [if_neg c2]
        by_cases c3 : (i > 0 ∧ bt s ((at_ + i : Nat) : Int) = 0) ∨ n + bt s ((at_ + i : Nat) : Int) % 128 * big i > 1000000000
        · rw [if_pos c3]; simp
        · rw [if_neg c3]; simp only; omega
    · rw [if_neg c]; simp
theorem rvT_range (s : ByteArray) (at_ : Int) : 0 ≤ (rvT s at_).1 ∧ (rvT s at_).1 ≤ 1000000000 ∧ 0 ≤ (rvT s at_).2.1 ∧ (rvT s at_).2.1 ≤ (s.size : Int) := by
  unfold rvT
  split
  · exact rvF_range s _ 5 0 0 (by omega)
  · simp

theorem spec_ReadShort_ev (s : ByteArray) (hs : s.size ≤ 140737488351232) (at_ : Int) : Ev (fun k => spec_ReadShort.f k s at_) (rsT s at_) := by
  unfold spec_ReadShort.f rsT
  refine Ev.bind (spec_ReadVar_ev s hs at_) ?_
  have h := rvT_range s at_
  generalize rvT s at_ = p at h ⊢
  obtain ⟨n, q, b⟩ := p
  simp only at h ⊢
  by_cases c : b = true
  · simp only [if_pos c]
    by_cases c1 : n > 20000
    · simp only [if_pos c1]; exact Ev.now _
    · simp only [if_neg c1, wi (n := (s.size : Int) - q) (by omega), wi (n := q + n) (by omega)]
      by_cases c2 : n > (s.size : Int) - q
      · simp only [if_pos c2]; exact Ev.now _
      · simp only [if_neg c2, if_pos h.2.2.1, if_pos (show q ≤ q + n by omega), if_pos (show q + n ≤ (s.size : Int) by omega)]; exact Ev.now _
  · simp only [if_neg c]; exact Ev.now _

theorem impl_in (x lo hi : Int) : impl_within.f x lo hi = some (inB x lo hi) := in_ite x lo hi

theorem impl_ReadVar_l0 (s : ByteArray) (hs : s.size ≤ 140737488351232) (at_ : Nat) (ha : at_ ≤ s.size) : ∀ (d i : Nat) (n : Int), i + d = 5 → 0 ≤ n ∧ n < big i → Ev (fun k => impl_ReadVar.l0 k s (at_ : Int) n (i : Int)) (rvF s at_ d i n)
  | 0, i, n, hi, hn => by
    refine Ev.step (fun k => rfl) ?_
    simp only [impl_ReadVar.l0, if_neg (show ¬ (i : Int) < 5 by omega)]
    refine Ev.step (fun k => rfl) ?_
    simp only [impl_ReadVar.j1, Bool.false_eq_true, if_false]
    exact Ev.now _
  | d + 1, i, n, hi, hn => by
    refine Ev.step (fun k => rfl) ?_
    have e1 : wrap64 ((at_ : Int) + (i : Int)) = ((at_ + i : Nat) : Int) := by rw [wi (by omega)]; omega
    simp only [impl_ReadVar.l0, if_pos (show (i : Int) < 5 by omega), e1, rvF]
    refine Ev.step (fun k => rfl) ?_
    by_cases c : at_ + i < s.size
    · have hb := bt_range s ((at_ + i : Nat) : Int)
      generalize hB : bt s ((at_ + i : Nat) : Int) = B at hb ⊢
      have e3 : Int.tmod B 128 = B % 128 := Int.tmod_eq_emod_of_nonneg hb.1
      have hbig := big_le (i + 1) (by omega)
      have hst := big_step n (B % 128) i hn (by omega)
      have e4 : wrap64 (n + shl .i64 (Int.tmod (wrap64 B) 128) (wrap64 (7 * (i : Int)))) = n + B % 128 * big i := by
        rw [wi (n := B) (by omega), e3, shl_big _ (by omega) i (by omega), wi (by omega)]
      simp only [impl_ReadVar.j1, e1, show decide (((at_ + i : Nat) : Int) < (s.size : Int)) = true from decide_eq_true (by omega), if_pos (show (0 : Int) ≤ ((at_ + i : Nat) : Int) by omega), if_pos (show ((at_ + i : Nat) : Int) < (s.size : Int) by omega), if_pos c, if_true, hB, wi (n := B) (by omega), wi (n := 7 * (i : Int)) (by omega), if_pos (show 0 ≤ 7 * (i : Int) by omega)]
      have e5 : wrap64 (n + shl .i64 (Int.tmod B 128) (7 * (i : Int))) = n + B % 128 * big i := by
        rw [wi (n := B) (by omega), wi (n := 7 * (i : Int)) (by omega)] at e4; exact e4
      simp only [e5, wr i (by omega), wr (at_ + i) (by omega)]
      by_cases c2 : B > 127
      · simp only [if_pos c2]
        exact impl_ReadVar_l0 s hs at_ ha d (i + 1) _ (by omega) hst
      · simp only [if_neg c2]
        by_cases c3 : (i : Int) > 0
        · simp only [if_pos c3]
          by_cases c4 : B = 0
          · simp only [if_pos c4, if_pos (show (i > 0 ∧ B = 0) ∨ n + B % 128 * big i > 1000000000 from Or.inl ⟨by omega, c4⟩)]; exact Ev.now _
          · simp only [if_neg c4]
            by_cases c5 : n + B % 128 * big i > 1000000000
            · simp only [if_pos c5, if_pos (show (i > 0 ∧ B = 0) ∨ n + B % 128 * big i > 1000000000 from Or.inr c5)]; exact Ev.now _
            · simp only [if_neg c5, if_neg (show ¬ ((i > 0 ∧ B = 0) ∨ n + B % 128 * big i > 1000000000) by omega)]; exact Ev.now _
        · simp only [if_neg c3]
          by_cases c5 : n + B % 128 * big i > 1000000000
          · simp only [if_pos c5, if_pos (show (i > 0 ∧ B = 0) ∨ n + B % 128 * big i > 1000000000 from Or.inr c5)]; exact Ev.now _
          · simp only [if_neg c5, if_neg (show ¬ ((i > 0 ∧ B = 0) ∨ n + B % 128 * big i > 1000000000) by omega)]; exact Ev.now _
    · simp only [impl_ReadVar.j1, show decide (((at_ + i : Nat) : Int) < (s.size : Int)) = false from decide_eq_false (by omega), if_neg c, Bool.false_eq_true, if_false]
      exact Ev.now _
theorem impl_ReadVar_ev (s : ByteArray) (hs : s.size ≤ 140737488351232) (at_ : Int) : Ev (fun k => impl_ReadVar.f k s at_) (rvT s at_) := by
  unfold impl_ReadVar.f rvT
  simp only [impl_in, Option.bind_some]
  by_cases c : inB at_ 0 (s.size : Int) = true
  · have h := inB_true.1 c
    simp only [if_pos c]
    obtain ⟨n, rfl⟩ := Int.eq_ofNat_of_zero_le h.1
    rw [Int.toNat_natCast]
    exact impl_ReadVar_l0 s hs n (by omega) 5 0 0 rfl (by rw [big_zero]; omega)
  · simp only [if_neg c]; exact Ev.now _

theorem impl_ReadShort_ev (s : ByteArray) (hs : s.size ≤ 140737488351232) (at_ : Int) : Ev (fun k => impl_ReadShort.f k s at_) (rsT s at_) := by
  unfold impl_ReadShort.f rsT
  refine Ev.bind (impl_ReadVar_ev s hs at_) ?_
  have h := rvT_range s at_
  generalize rvT s at_ = p at h ⊢
  obtain ⟨n, q, b⟩ := p
  simp only at h ⊢
  by_cases c : b = true
  · simp only [if_pos c]
    by_cases c1 : n > 20000
    · simp only [if_pos c1]; exact Ev.now _
    · simp only [if_neg c1, wi (n := (s.size : Int) - q) (by omega), wi (n := q + n) (by omega)]
      by_cases c2 : n > (s.size : Int) - q
      · simp only [if_pos c2]; exact Ev.now _
      · simp only [if_neg c2, if_pos h.2.2.1, if_pos (show q ≤ q + n by omega), if_pos (show q + n ≤ (s.size : Int) by omega)]; exact Ev.now _
  · simp only [if_neg c]; exact Ev.now _

theorem FnExactReadShort : laws_FnExactReadShort.Pure := by
  intro s at_ hs _
  refine Ev.rounds ?_
  unfold laws_FnExactReadShort.f
  by_cases h : (s.size : Int) > 1048576
  · simp only [if_pos h]; exact Ev.now _
  · simp only [if_neg h]
    refine Ev.bind (spec_ReadShort_ev s hs at_) (Ev.bind (impl_ReadShort_ev s hs at_) ?_)
    simp only [if_true, bne_self_eq_false, Bool.false_eq_true, if_false]
    exact Ev.now _

end Go.Proofs.Ytfaiggdikdndnaa.Pure
