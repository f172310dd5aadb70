/- Of every list of bytes that is drawn from, the law on files answers true.
No condition beyond those of the given row. -/
import Derived.Test.YtmohbiagcbfkpaaQDrawx0
import Derived.Test.YtmohbiagcbfkpaaQDrawx2
import Derived.Test.YtmohbiagcbfkpaaQDrawx3
import Derived.Test.YtmohbiagcbfkpaaQDrawx4
import Derived.Test.YtmohbiagcbfkpaaQDrawx5
import Derived.Test.YtmohbiagcbfkpaaStFnFiles
import Derived.Test.YtmohbiagcbfkpaaPlain
namespace Go.Proofs.Ytmohbiagcbfkpaa.Pure
open Go.RowKit Go.Proofs.Ytmohbiagcbfkpaa.QDraw Go.Proofs.Ytmohbiagcbfkpaa.Plain Go.Proofs.YtmohbiagcbfkpaaW.PrintWords Go.Proofs.YtmohbiagcbfkpaaW.PrintLast Go.Proofs.YtmohbiagcbfkpaaW.PrintMore
set_option linter.unusedSimpArgs false
set_option linter.unusedVariables false

/-- A drawn number's state: where the bytes are read, and what was made of them. -/
def At (l : List Int) (p : Int) : Prop := 0 ≤ p ∧ p ≤ (l.length : Int)
theorem mask255 (n : Int) : Go.bits .and .i64 n 255 = n % 256 := by
  have h : (BitVec.ofInt 64 255).toNat = 2 ^ 8 - 1 := by decide
  have key : (BitVec.ofInt 64 n &&& BitVec.ofInt 64 255).toNat = (n % ((2 ^ 64 : Nat) : Int)).toNat % 2 ^ 8 := by
    rw [BitVec.toNat_and, BitVec.toNat_ofInt, h, Nat.and_two_pow_sub_one_eq_mod]
  show IntKind.i64.wrap ((BitVec.ofInt 64 n &&& BitVec.ofInt 64 255).toNat : Nat) = n % 256
  rw [key, IntKind.wrap_i64]
  omega
theorem new_l0 (l : List Int) (hl : l.length ≤ 1048576) : ∀ (d i : Nat) (x : Int), i + d = l.length → ∃ y, Ev (fun k => spec_l01New.l0 k l x (i : Int)) (l, 0, y)
  | 0, i, x, hi => ⟨x, by
    refine Ev.step (fun k => rfl) ?_
    simp only [spec_l01New.l0, if_neg (show ¬ (i : Int) < (l.length : Int) by omega)]
    exact Ev.now _⟩
  | d + 1, i, x, hi => by
    by_cases c : (i : Int) < 4000
    · obtain ⟨y, hy⟩ := new_l0 l hl d (i + 1) (Go.bits .and .i64 (wrap64 ((wrap64 ((wrap64 (x * 131)) + (wrap64 (rd l (i : Int))))) + 7)) 1073741823) (by omega)
      refine ⟨y, Ev.step (fun k => rfl) ?_⟩
      simp only [spec_l01New.l0, if_pos (show (i : Int) < (l.length : Int) by omega), if_pos c, if_pos (show (0 : Int) ≤ (i : Int) by omega), wr i (by omega)]
      exact hy
    · refine ⟨x, Ev.step (fun k => rfl) ?_⟩
      simp only [spec_l01New.l0, if_pos (show (i : Int) < (l.length : Int) by omega), if_neg c]
      exact Ev.now _
theorem new_ex (l : List Int) (hl : l.length ≤ 1048576) : ∃ y, Ev (fun k => spec_l01New.f k l) (l, 0, y) := new_l0 l hl l.length 0 _ (by omega)
theorem byte_ex (l : List Int) (hl : l.length ≤ 1048576) (p x : Int) (hp : At l p) : ∃ b q y, spec_l01Byte.f l p x = some (b, q, y) ∧ 0 ≤ b ∧ b ≤ 255 ∧ At l q := by
  unfold spec_l01Byte.f
  unfold At at hp ⊢
  by_cases c : p < (l.length : Int)
  · simp only [if_pos c, if_pos hp.1, mask255, wi (n := p + 1) (by omega)]
    exact ⟨_, _, _, rfl, by omega, by omega, by omega, by omega⟩
  · simp only [if_neg c, mask255]
    exact ⟨_, _, _, rfl, by omega, by omega, hp⟩
theorem tmod_lt {v n : Int} (hv : 0 ≤ v) (hn : 0 < n) : 0 ≤ Int.tmod v n ∧ Int.tmod v n < n := by
  rw [Int.tmod_eq_emod_of_nonneg hv]
  exact ⟨Int.emod_nonneg _ (by omega), Int.emod_lt_of_pos _ hn⟩
theorem below_ex (l : List Int) (hl : l.length ≤ 1048576) (p x n : Int) (hp : At l p) : ∃ b q y, spec_l01Below.f l p x n = some (b, q, y) ∧ 0 ≤ b ∧ (0 < n → b < n) ∧ (n ≤ 0 → b = 0) ∧ At l q := by
  unfold spec_l01Below.f
  by_cases c : n ≤ 0
  · simp only [if_pos c]
    exact ⟨_, _, _, rfl, by omega, by omega, fun _ => rfl, hp⟩
  · simp only [if_neg c]
    by_cases c2 : n ≤ 256
    · obtain ⟨b, q, y, h, h0, h1, h2⟩ := byte_ex l hl p x hp
      simp only [if_pos c2, h, Option.bind_some, if_neg (show ¬ n = 0 by omega)]
      have := tmod_lt h0 (show 0 < n by omega)
      exact ⟨_, _, _, rfl, this.1, fun _ => this.2, by omega, h2⟩
    · obtain ⟨b1, q1, y1, e1, g1, k1, p1⟩ := byte_ex l hl p x hp
      obtain ⟨b2, q2, y2, e2, g2, k2, p2⟩ := byte_ex l hl q1 y1 p1
      obtain ⟨b3, q3, y3, e3, g3, k3, p3⟩ := byte_ex l hl q2 y2 p2
      obtain ⟨b4, q4, y4, e4, g4, k4, p4⟩ := byte_ex l hl q3 y3 p3
      simp only [if_neg c2, e1, e2, e3, e4, Option.bind_some, if_neg (show ¬ n = 0 by omega)]
      have := tmod_lt (v := wrap64 ((wrap64 ((wrap64 ((wrap64 (b1 * 16777216)) + (wrap64 (b2 * 65536)))) + (wrap64 (b3 * 256)))) + b4)) (by unfold wrap64; omega) (show 0 < n by omega)
      exact ⟨_, _, _, rfl, this.1, fun _ => this.2, by omega, p4⟩

theorem text_l0 (l : List Int) (hl : l.length ≤ 1048576) (n : Int) (hn : n ≤ 5000) : ∀ (d i : Nat) (out : List Int) (p x : Int), (i : Int) + d = n → out.length = i → At l p → ∃ s q y, Ev (fun k => spec_l01Text.l0 k n out (i : Int) l p x) (s, q, y) ∧ (s.size : Int) = n ∧ At l q
  | 0, i, out, p, x, hi, ho, hp => ⟨strOfNums out, p, x, by
    refine Ev.step (fun k => rfl) ?_
    simp only [spec_l01Text.l0, if_neg (show ¬ (i : Int) < n by omega)]
    exact Ev.now _, by rw [strOfNums_size]; omega, hp⟩
  | d + 1, i, out, p, x, hi, ho, hp => by
    obtain ⟨b, q, y, e, _, _, h2⟩ := byte_ex l hl p x hp
    obtain ⟨s, q2, y2, e2, hs, hq⟩ := text_l0 l hl n hn d (i + 1) (out ++ [b % 256]) q y (by omega) (by rw [List.length_append, ho]; rfl) h2
    refine ⟨s, q2, y2, Ev.step (fun k => rfl) ?_, hs, hq⟩
    simp only [spec_l01Text.l0, if_pos (show (i : Int) < n by omega), e, Option.bind_some, if_pos (show out.length < 140737488355328 by omega), wr i (by omega)]
    exact e2
theorem text_ex (l : List Int) (hl : l.length ≤ 1048576) (p x n : Int) (hp : At l p) (hn : 0 ≤ n ∧ n ≤ 5000) : ∃ s q y, Ev (fun k => spec_l01Text.f k l p x n) (s, q, y) ∧ (s.size : Int) = n ∧ At l q := by
  obtain ⟨s, q, y, e, hs, hq⟩ := text_l0 l hl n hn.2 n.toNat 0 [] p x (by omega) rfl hp
  refine ⟨s, q, y, ?_, hs, hq⟩
  unfold spec_l01Text.f
  simp only [if_neg (show ¬ n > 5000 by omega)]
  refine Ev.step (fun k => rfl) ?_
  simp only [spec_l01Text.j0]
  exact e

theorem file_ex (l : List Int) (hl : l.length ≤ 1048576) (p x : Int) (hp : At l p) : ∃ s n q y, Ev (fun k => spec_l03File.f k l p x) (s, n, q, y) ∧ s.size ≤ 19 ∧ 0 ≤ n ∧ n ≤ (s.size : Int) ∧ At l q := by
  unfold spec_l03File.f
  obtain ⟨a, q1, y1, e1, g1, k1, _, p1⟩ := below_ex l hl p x 20 hp
  have := k1 (by omega)
  obtain ⟨s, q2, y2, e2, hs, p2⟩ := text_ex l hl q1 y1 a p1 (by omega)
  obtain ⟨n, q3, y3, e3, g3, k3, _, p3⟩ := below_ex l hl q2 y2 ((s.size : Int) + 1) p2
  refine ⟨s, n, q3, y3, ?_, by omega, g3, by have := k3 (by omega); omega, p3⟩
  simp only [e1, Option.bind_some]
  refine Ev.bind e2 ?_
  simp only [wi (n := (s.size : Int) + 1) (by omega), e3, Option.bind_some]
  exact Ev.now _
theorem long_l0 (n v : Int) : ∀ (d i : Nat) (out : List Int), (i : Int) + d = n → (out.length : Int) = n → n ≤ 20000 → ∃ s, Ev (fun k => spec_l01Long.l0 k n v out (i : Int)) s ∧ (s.size : Int) = n
  | 0, i, out, hi, ho, hn => ⟨strOfNums out, by
    refine Ev.step (fun k => rfl) ?_
    simp only [spec_l01Long.l0, if_neg (show ¬ (i : Int) < n by omega)]
    exact Ev.now _, by rw [strOfNums_size]; omega⟩
  | d + 1, i, out, hi, ho, hn => by
    obtain ⟨s, e, hs⟩ := long_l0 n v d (i + 1) (out.set (i : Int).toNat v) (by omega) (by rw [List.length_set]; exact ho) hn
    refine ⟨s, Ev.step (fun k => rfl) ?_, hs⟩
    simp only [spec_l01Long.l0, if_pos (show (i : Int) < n by omega), if_pos (show (0 : Int) ≤ (i : Int) by omega), if_pos (show (i : Int) < (out.length : Int) by omega), wr i (by omega)]
    exact e
theorem long_ex : ∃ s, Ev (fun k => spec_l01Long.f k 20000 97) s ∧ (s.size : Int) = 20000 := by
  obtain ⟨s, e, hs⟩ := long_l0 20000 97 20000 0 (List.replicate (20000 : Int).toNat 0) (by omega) (by rw [List.length_replicate]; rfl) (by omega)
  refine ⟨s, ?_, hs⟩
  unfold spec_l01Long.f
  simp only [if_pos (show (0 : Int) ≤ 20000 by omega), if_pos (show (20000 : Int).toNat ≤ 281474976710656 by decide)]
  exact e
theorem any_ex (l : List Int) (hl : l.length ≤ 1048576) (p x : Int) (hp : At l p) : ∃ s n q y, Ev (fun k => spec_l03Any.f k l p x) (s, n, q, y) ∧ s.size ≤ 20000 ∧ -1 ≤ n ∧ n ≤ 20001 ∧ At l q := by
  unfold spec_l03Any.f
  obtain ⟨a, q1, y1, e1, g1, k1, _, p1⟩ := below_ex l hl p x 10 hp
  obtain ⟨s, n, q2, y2, e2, hs, h0, h1, p2⟩ := file_ex l hl q1 y1 p1
  simp only [e1, Option.bind_some]
  by_cases c0 : a = 0
  · refine ⟨_, _, _, _, Ev.bind e2 (by simp only [if_pos c0]; exact Ev.now _), by omega, ?_, ?_, p2⟩
    · rw [wi (n := (s.size : Int) + 1) (by omega)]; omega
    · rw [wi (n := (s.size : Int) + 1) (by omega)]; omega
  · by_cases c1 : a = 1
    · exact ⟨_, _, _, _, Ev.bind e2 (by simp only [if_neg c0, if_pos c1]; exact Ev.now _), by omega, by omega, by omega, p2⟩
    · by_cases c2 : a = 2
      · obtain ⟨t, et, ht⟩ := long_ex
        exact ⟨_, _, _, _, Ev.bind e2 (by simp only [if_neg c0, if_neg c1, if_pos c2]; exact Ev.bind et (Ev.now _)), by omega, by omega, by omega, p2⟩
      · exact ⟨_, _, _, _, Ev.bind e2 (by simp only [if_neg c0, if_neg c1, if_neg c2]; exact Ev.now _), by omega, by omega, by omega, p2⟩
theorem drawFile_ex (l : List Int) (hl : l.length ≤ 1048576) : ∃ s n, Ev (fun k => spec_DrawFile.f k l) (s, n) ∧ s.size ≤ 19 ∧ 0 ≤ n ∧ n ≤ (s.size : Int) := by
  obtain ⟨y, e⟩ := new_ex l hl
  obtain ⟨s, n, q, z, e1, h⟩ := file_ex l hl 0 y ⟨by omega, by omega⟩
  exact ⟨s, n, by unfold spec_DrawFile.f; exact Ev.bind e (Ev.bind e1 (Ev.now _)), h.1, h.2.1, h.2.2.1⟩
theorem pickInt_ex (l : List Int) (hl : l.length ≤ 1048576) (p x : Int) (hp : At l p) : ∃ v q y, spec_l01PickInt.f l p x [0, 1, 3, 30, -1, 9223372036854775807] = some (v, q, y) ∧ -9223372036854775808 ≤ v ∧ v ≤ 9223372036854775807 ∧ At l q := by
  unfold spec_l01PickInt.f
  obtain ⟨a, q, y, e, g, k, _, p1⟩ := below_ex l hl p x 6 hp
  have hk := k (by omega)
  simp only [List.length_cons, List.length_nil, show (((0 + 1 + 1 + 1 + 1 + 1 + 1 : Nat)) : Int) = 6 by rfl, e, Option.bind_some, if_pos g, if_pos hk]
  have c : a = 0 ∨ a = 1 ∨ a = 2 ∨ a = 3 ∨ a = 4 ∨ a = 5 := by omega
  refine ⟨_, _, _, rfl, ?_, ?_, p1⟩ <;> (rcases c with rfl | rfl | rfl | rfl | rfl | rfl <;> decide)
theorem drawCrashed_ex (l : List Int) (hl : l.length ≤ 1048576) : ∃ s n v, Ev (fun k => spec_DrawCrashed.f k l) (s, n, v) ∧ s.size ≤ 20000 ∧ -1 ≤ n ∧ n ≤ 20001 ∧ -9223372036854775808 ≤ v ∧ v ≤ 9223372036854775807 := by
  obtain ⟨y, e⟩ := new_ex l hl
  obtain ⟨v, q, z, e1, v0, v1, p1⟩ := pickInt_ex l hl 0 y ⟨by omega, by omega⟩
  obtain ⟨s, n, q2, z2, e2, h0, h1, h2, _⟩ := any_ex l hl q z p1
  refine ⟨s, n, v, ?_, h0, h1, h2, v0, v1⟩
  unfold spec_DrawCrashed.f
  refine Ev.bind e ?_
  simp only [e1, Option.bind_some]
  exact Ev.bind e2 (Ev.now _)
theorem drawAppended_ex (l : List Int) (hl : l.length ≤ 1048576) : ∃ s n t, Ev (fun k => spec_DrawAppended.f k l) (s, n, t) ∧ s.size ≤ 20000 ∧ t.size ≤ 4 := by
  obtain ⟨y, e⟩ := new_ex l hl
  obtain ⟨a, q, z, e1, g, k, _, p1⟩ := below_ex l hl 0 y 5 ⟨by omega, by omega⟩
  have hk := k (by omega)
  obtain ⟨t, q1, z1, et, ht, p2⟩ := text_ex l hl q z a p1 (by omega)
  obtain ⟨s, n, q2, z2, e2, h0, h1, h2, _⟩ := any_ex l hl q1 z1 p2
  refine ⟨s, n, t, ?_, h0, by omega⟩
  unfold spec_DrawAppended.f
  refine Ev.bind e ?_
  simp only [e1, Option.bind_some]
  exact Ev.bind et (Ev.bind e2 (Ev.now _))
theorem drawSynced_ex (l : List Int) (hl : l.length ≤ 1048576) : ∃ s n, Ev (fun k => spec_DrawSyncedFile.f k l) (s, n) ∧ s.size ≤ 20000 := by
  obtain ⟨y, e⟩ := new_ex l hl
  obtain ⟨s, n, q2, z2, e2, h0, _⟩ := any_ex l hl 0 y ⟨by omega, by omega⟩
  exact ⟨s, n, by unfold spec_DrawSyncedFile.f; exact Ev.bind e (Ev.bind e2 (Ev.now _)), h0⟩

theorem places_l0 (l : List Int) (hl : l.length ≤ 1048576) : ∀ (d i : Nat) (out : List Int) (p x : Int), i + d = 12 → out.length = i → (∀ v ∈ out, 0 ≤ v ∧ v < 10000) → At l p → ∃ r, Ev (fun k => spec_DrawPlaces.l0 k out (i : Int) l p x) r ∧ r.length = 12 ∧ ∀ v ∈ r, 0 ≤ v ∧ v < 10000
  | 0, i, out, p, x, hi, ho, hv, hp => ⟨out, by
    refine Ev.step (fun k => rfl) ?_
    simp only [spec_DrawPlaces.l0, if_neg (show ¬ (i : Int) < 12 by omega)]
    exact Ev.now _, by omega, hv⟩
  | d + 1, i, out, p, x, hi, ho, hv, hp => by
    obtain ⟨b, q, y, e, g, k, _, p1⟩ := below_ex l hl p x 10000 hp
    have hk := k (by omega)
    obtain ⟨r, er, h⟩ := places_l0 l hl d (i + 1) (out ++ [b]) q y (by omega) (by rw [List.length_append, ho]; rfl) (by
      intro v hm
      rcases List.mem_append.1 hm with h | h
      · exact hv v h
      · rw [List.mem_singleton.1 h]; exact ⟨g, hk⟩) p1
    refine ⟨r, Ev.step (fun k => rfl) ?_, h⟩
    simp only [spec_DrawPlaces.l0, if_pos (show (i : Int) < 12 by omega), e, Option.bind_some, if_pos (show out.length < 17592186044416 by omega), wr i (by omega)]
    exact er
theorem places_ex (l : List Int) (hl : l.length ≤ 1048576) : ∃ r, Ev (fun k => spec_DrawPlaces.f k l) r ∧ r.length = 12 ∧ ∀ v ∈ r, 0 ≤ v ∧ v < 10000 := by
  obtain ⟨y, e⟩ := new_ex l hl
  obtain ⟨b, q, z, e1, _, _, p1⟩ := byte_ex l hl 0 y ⟨by omega, by omega⟩
  obtain ⟨r, er, h⟩ := places_l0 l hl 12 0 [] q z (by omega) rfl (by simp) p1
  refine ⟨r, ?_, h⟩
  unfold spec_DrawPlaces.f
  refine Ev.bind e ?_
  simp only [e1, Option.bind_some]
  exact er

def fileB (s : ByteArray) (n : Int) : Bool := if (s.size : Int) ≤ 20000 then inB n 0 (s.size : Int) else false

theorem impl_in (x lo hi : Int) : impl_within.f x lo hi = some (inB x lo hi) := in_ite x lo hi

theorem impl_FileOk_eq (s : ByteArray) (n : Int) : impl_FileOk.f s n = some (fileB s n) := by
  unfold impl_FileOk.f fileB
  split <;> simp [impl_in]

def crashN (s : ByteArray) (n keep : Int) : Int := if keep > (s.size : Int) - n then (s.size : Int) else if keep > 0 then n + keep else n
def crashF (s : ByteArray) (n keep : Int) : ByteArray × Int := if fileB s n = true then (s.extract 0 (crashN s n keep).toNat, crashN s n keep) else (s, n)
theorem fileB_true {s : ByteArray} {n : Int} (h : fileB s n = true) : (s.size : Int) ≤ 20000 ∧ 0 ≤ n ∧ n ≤ (s.size : Int) := by
  unfold fileB at h
  by_cases c : (s.size : Int) ≤ 20000
  · rw [if_pos c] at h; exact ⟨c, inB_true.1 h⟩
  · simp [c] at h

theorem impl_Crashed_eq (s : ByteArray) (n keep : Int) (hk : -9223372036854775808 ≤ keep ∧ keep ≤ 9223372036854775807) : impl_Crashed.f s n keep = some (crashF s n keep) := by
  unfold impl_Crashed.f crashF
  simp only [impl_FileOk_eq, Option.bind_some]
  by_cases c : fileB s n = true
  · have := fileB_true c
    have e : wrap64 (n + mn (mx keep 0) (wrap64 ((s.size : Int) - n))) = crashN s n keep := by
      rw [wi (n := (s.size : Int) - n) (by omega)]
      have hm : n + mn (mx keep 0) ((s.size : Int) - n) = crashN s n keep := by
        unfold mn mx crashN
        (repeat' split) <;> omega
      have hr : 0 ≤ crashN s n keep ∧ crashN s n keep ≤ (s.size : Int) := by
        unfold crashN
        (repeat' split) <;> omega
      rw [hm, wi (by omega)]
    have e2 : 0 ≤ crashN s n keep ∧ crashN s n keep ≤ (s.size : Int) := by
      unfold crashN
      split <;> (try split) <;> omega
    simp only [if_pos c, e, if_pos e2.1, if_pos e2.2]
  · simp only [if_neg c]

theorem spec_in (x lo hi : Int) : spec_l01In.f x lo hi = some (inB x lo hi) := in_ite x lo hi

theorem spec_FileOk_eq (s : ByteArray) (n : Int) : spec_FileOk.f s n = some (fileB s n) := by
  unfold spec_FileOk.f fileB
  split <;> simp [spec_in]

theorem spec_Crashed_eq (s : ByteArray) (n keep : Int) (hk : -9223372036854775808 ≤ keep ∧ keep ≤ 9223372036854775807) : spec_Crashed.f s n keep = some (crashF s n keep) := by
  unfold spec_Crashed.f crashF crashN
  simp only [spec_FileOk_eq, Option.bind_some]
  by_cases c : fileB s n = true
  · have := fileB_true c
    simp only [if_pos c, wi (n := (s.size : Int) - n) (by omega)]
    by_cases c1 : keep > (s.size : Int) - n
    · simp only [if_pos c1, if_pos (show (0 : Int) ≤ (s.size : Int) by omega), if_pos (Int.le_refl (s.size : Int))]
    · simp only [if_neg c1]
      by_cases c2 : keep > 0
      · simp only [if_pos c2, wi (n := n + keep) (by omega), if_pos (show (0 : Int) ≤ n + keep by omega), if_pos (show n + keep ≤ (s.size : Int) by omega)]
      · simp only [if_neg c2, if_pos this.2.1, if_pos this.2.2]
  · simp only [if_neg c]

def appF (s : ByteArray) (n : Int) (t : ByteArray) : ByteArray × Int × Bool := if fileB s n = true then (if fileB (s ++ t) n = true then (s ++ t, n, true) else (s, n, false)) else (s, n, false)

theorem impl_Appended_eq (s : ByteArray) (n : Int) (t : ByteArray) (h : s.size + t.size ≤ 9223372036854775807) : impl_Appended.f s n t = some (appF s n t) := by
  unfold impl_Appended.f appF
  simp only [if_pos h, impl_FileOk_eq, Option.bind_some]
  by_cases c : fileB s n = true
  · simp only [if_pos c]
    by_cases c2 : fileB (s ++ t) n = true
    · simp only [if_pos c2]
    · simp only [if_neg c2]
  · simp only [if_neg c]

theorem spec_Appended_eq (s : ByteArray) (n : Int) (t : ByteArray) (h : s.size + t.size ≤ 9223372036854775807) : spec_Appended.f s n t = some (appF s n t) := by
  unfold spec_Appended.f appF
  simp only [if_pos h, spec_FileOk_eq, Option.bind_some]
  by_cases c : fileB s n = true
  · simp only [if_pos c]
    by_cases c2 : fileB (s ++ t) n = true
    · simp only [if_pos c2]
    · simp only [if_neg c2]
  · simp only [if_neg c]

def syncF (s : ByteArray) (n : Int) : ByteArray × Int := if fileB s n = true then (s, (s.size : Int)) else (s, n)

theorem impl_SyncedFile_eq (s : ByteArray) (n : Int) : impl_SyncedFile.f s n = some (syncF s n) := by
  unfold impl_SyncedFile.f syncF
  simp only [impl_FileOk_eq, Option.bind_some]
  split <;> rfl

theorem spec_SyncedFile_eq (s : ByteArray) (n : Int) : spec_SyncedFile.f s n = some (syncF s n) := by
  unfold spec_SyncedFile.f syncF
  simp only [spec_FileOk_eq, Option.bind_some]
  split <;> rfl

theorem begins_eq (s t : ByteArray) (h : s.size ≤ t.size) (he : t.extract 0 s.size = s) : laws_begins.f s t = some true := by
  unfold laws_begins.f
  simp only [if_pos (show (s.size : Int) ≤ (t.size : Int) by omega), if_pos (show (0 : Int) ≤ (s.size : Int) by omega), Int.toNat_natCast, he, beq_self_eq_true]
theorem fileB_of {s : ByteArray} {n : Int} (h : (s.size : Int) ≤ 20000) (h0 : 0 ≤ n) (h1 : n ≤ (s.size : Int)) : fileB s n = true := by
  unfold fileB; rw [if_pos h]; exact inB_true.2 ⟨h0, h1⟩
theorem FnFiles : laws_FnFiles.Pure := by
  intro l hb
  refine Ev.rounds ?_
  unfold laws_FnFiles.f laws_big.f
  simp only [Option.bind_some, decide_eq_true_eq]
  by_cases c : (l.length : Int) > 1048576
  · simp only [if_pos c]; exact Ev.now _
  simp only [if_neg c]
  have hl : l.length ≤ 1048576 := by omega
  obtain ⟨s, n, e1, hs, h0, h1⟩ := drawFile_ex l hl
  obtain ⟨r, e2, hr, hv⟩ := places_ex l hl
  obtain ⟨cs, cn, cv, e3, c0, c1, c2, c3, c4⟩ := drawCrashed_ex l hl
  obtain ⟨ss', an, tt', e4, a0, a1⟩ := drawAppended_ex l hl
  obtain ⟨ss, sn, e5, s0⟩ := drawSynced_ex l hl
  have hv0 := hv (rd r 0) (by have := rd_get r 0 (by omega); rw [show rd r 0 = r[0] from this]; exact List.getElem_mem _)
  generalize hk : Int.tmod (rd r 0) 30 = keep
  have hkp : 0 ≤ keep ∧ keep ≤ 29 := by rw [← hk, Int.tmod_eq_emod_of_nonneg hv0.1]; omega
  have hms : (⟨#[109, 111, 114, 101]⟩ : ByteArray).size = 4 := rfl
  generalize (⟨#[109, 111, 114, 101]⟩ : ByteArray) = more at hms
  have f1 : fileB s n = true := fileB_of (by omega) h0 h1
  have f2 : fileB (s ++ more) n = true := fileB_of (by rw [ByteArray.size_append]; omega) h0 (by rw [ByteArray.size_append]; omega)
  have g1 : crashF s n keep = (s.extract 0 (crashN s n keep).toNat, crashN s n keep) := by unfold crashF; rw [if_pos f1]
  have hN : n ≤ crashN s n keep ∧ crashN s n keep ≤ (s.size : Int) := by unfold crashN; (repeat' split) <;> omega
  have g2 : appF s n more = (s ++ more, n, true) := by unfold appF; rw [if_pos f1, if_pos f2]
  have g3 : syncF (s ++ more) n = (s ++ more, ((s ++ more).size : Int)) := by unfold syncF; rw [if_pos f2]
  have f3 : fileB (s ++ more) ((s ++ more).size : Int) = true := fileB_of (by rw [ByteArray.size_append]; omega) (by omega) (by omega)
  have g4 : crashF (s ++ more) ((s ++ more).size : Int) 0 = (s ++ more, ((s ++ more).size : Int)) := by
    unfold crashF crashN
    rw [if_pos f3, if_neg (by omega), if_neg (by omega), Int.toNat_natCast, ByteArray.extract_zero_size]
  have g5 : crashF (s ++ more) n 0 = ((s ++ more).extract 0 n.toNat, n) := by
    unfold crashF crashN
    rw [if_pos f2, if_neg (by rw [ByteArray.size_append]; omega), if_neg (by omega)]
  generalize hM : crashN s n keep = m at hN g1
  have hsz : (s.extract 0 m.toNat).size = m.toNat := by rw [ByteArray.size_extract]; omega
  have hsz2 : (s.extract 0 n.toNat).size = n.toNat := by rw [ByteArray.size_extract]; omega
  have f4 : fileB (s.extract 0 m.toNat) m = true := fileB_of (by rw [hsz]; omega) (by omega) (by rw [hsz]; omega)
  have b1 : laws_begins.f (s.extract 0 n.toNat) (s.extract 0 m.toNat) = some true := begins_eq _ _ (by omega) (by rw [hsz2, ByteArray.extract_extract]; congr 1; omega)
  have b2 : laws_begins.f (s.extract 0 m.toNat) s = some true := begins_eq _ _ (by omega) (by rw [hsz])
  refine Ev.bind e1 (Ev.bind e2 ?_)
  simp only [hr, if_pos (show (0 : Int) < ((12 : Nat) : Int) by decide), hk, impl_Crashed_eq s n keep (by omega), g1, Option.bind_some, impl_Appended_eq s n more (by omega), g2, impl_SyncedFile_eq, g3]
  refine Ev.bind e3 (Ev.bind e4 ?_)
  simp only [impl_Appended_eq ss' an tt' (by omega), spec_Appended_eq ss' an tt' (by omega), Option.bind_some]
  refine Ev.bind e5 ?_
  simp only [if_pos h0, if_pos h1, b1, b2, Option.bind_some, if_true, if_pos (show m = ((s.extract 0 m.toNat).size : Int) by rw [hsz]; omega), impl_FileOk_eq, f1, f4, impl_Crashed_eq _ _ 0 (by omega), g4, g5, beq_self_eq_true, Bool.and_self, impl_Crashed_eq cs cn cv (by omega), spec_Crashed_eq cs cn cv (by omega), impl_SyncedFile_eq, spec_SyncedFile_eq, spec_FileOk_eq]
  rw [show (s ++ more).extract 0 n.toNat = s.extract 0 n.toNat by rw [ByteArray.extract_append]; rw [show n.toNat - s.size = 0 by omega]; simp]
  simp only [beq_self_eq_true]
  exact Ev.now _

end Go.Proofs.Ytmohbiagcbfkpaa.Pure
