/- What impl.Decimal and impl.ReadDecimal compute: the shelf's laid contracts of strconv.Itoa and strconv.Atoi, told as the printed functions tell theirs; the library's table and its two errors lie as they were listed. No condition. -/
import Derived.Test.YthajpckfodhhpaaDoorProg
import Derived.Test.YthajpckfodhhpaaDoorShelf
import Derived.Test.YthajpckfodhhpaaDoorWWords
import Derived.Test.YthajpckfodhhpaaDoorWKept
import Derived.Lib.AppendIntMem
import Derived.Lib.AtoiErrMem
import Derived.Lib.AtoiAllCases
import Derived.Lib.ItoaLen
import Derived.WalkSmall
import Derived.WalkKit
import Derived.WideShapes
import Derived.Laws.Strings
namespace Go.Proofs.YthajpckfodhhpaaDoor
open Go.RowKit Go.Proofs.YthajpckfodhhpaaDoorW.PrintWords
set_option linter.unusedVariables false
set_option linter.unusedSimpArgs false

/-- The library's table of powers lies as it was listed. -/
def TabAt (w : World) : Prop := Lib.TabIs Tryd.prog w "internal/strconv.uint64pow10" .u64 Lib.pow10Tab
theorem TabAt.on {w0 w : World} (h : TabAt w0) (hb : Below w0.heap.size w0 w) : TabAt w := Lib.tabBelow_of_tabIs h w hb
/-- The library's two errors are there. -/
def ErrsAt (w : World) : Prop := (∃ tp p, w.var? Tryd.prog "strconv.ErrSyntax" = some #[.iface tp p]) ∧ ∃ tp p, w.var? Tryd.prog "strconv.ErrRange" = some #[.iface tp p]
theorem var_on {w0 w : World} {n : String} {cs : Array Value} (h : w0.var? Tryd.prog n = some cs) (hb : Below w0.heap.size w0 w) : w.var? Tryd.prog n = some cs := by
  unfold World.var? at *
  cases hg : Tryd.prog.globalNamed n with
  | none => rw [hg] at h; cases h
  | some g =>
    rw [hg] at h
    simp only [Option.bind_some] at h ⊢
    cases hh : w0.heap[g]? with
    | none => rw [hh] at h; cases h
    | some o =>
      rw [hb.block g (Array.getElem?_eq_some_iff.1 hh).1]
      exact h
theorem ErrsAt.on {w0 w : World} (h : ErrsAt w0) (hb : Below w0.heap.size w0 w) : ErrsAt w := by
  obtain ⟨⟨a, b, h1⟩, c, d, h2⟩ := h
  exact ⟨⟨a, b, var_on h1 hb⟩, c, d, var_on h2 hb⟩

def impl_Decimal.f (a0 : Int) : Option (ByteArray) := if (Lit.int .i64 a0).wf = true then some ⟨(Lib.itoa a0).toArray⟩ else none
theorem dec_wf {x : Int} (h : (Lit.int .i64 x).wf = true) : -9223372036854775808 ≤ x ∧ x ≤ 9223372036854775807 := by
  simp [Lit.wf, IntKind.min, IntKind.max, IntKind.signed, IntKind.bits] at h
  omega
set_option maxHeartbeats 1000000 in
set_option maxRecDepth 100000 in
theorem dec_any (n : Int) (w : World) (h0 : -9223372036854775808 ≤ n) (h1 : n ≤ 9223372036854775807) (htab : TabAt w) :
    Calls Tryd.prog 8 #[.int .i64 n] w fun e w' => e = .returned (.string ⟨(Lib.itoa n).toArray⟩) ∧ Below w.heap.size w w' := by
  go_enter Tryd.func8, Tryd.ntmps8
  go_wp2_with (go_at_call 26; refine (Tryd.strconv_Itoa n h0 h1 w htab).mono ?_; rintro e w' ⟨rfl, k, os, rfl⟩)
  go_ret
  exact ⟨rfl, Lib.below_grow _ _ (Nat.le_refl _) _ _⟩
theorem impl_Decimal.calls (a0 : Int) (r : ByteArray) (w : World) (h : impl_Decimal.f a0 = some r) (htab : TabAt w := by exact TabAt.on HTAB.out (by repeat (first | (with_reducible first | exact HB.out | exact Below.refl _ _ | apply below_alloc | apply pw_below_drewN | apply below_drew1) | exact HB.out))) :
    Calls Tryd.prog 8 #[.int .i64 a0] w fun e w' => e = .returned (.string r) ∧ Below w.heap.size w w' := by
  unfold impl_Decimal.f at h
  by_cases c : (Lit.int .i64 a0).wf = true
  · rw [if_pos c] at h
    obtain rfl := Option.some.inj h
    exact dec_any a0 w (dec_wf c).1 (dec_wf c).2 htab
  · rw [if_neg c] at h; cases h

/-- The number whose numeral a text is, if it is one of 0 to 1,000,000,000. -/
def readDec (s : ByteArray) : Int × Bool := match Lib.atoiAll s.data.toList with
  | .ok v => if 0 ≤ v ∧ v ≤ 1000000000 ∧ (⟨(Lib.itoa v).toArray⟩ : ByteArray) = s then (v, true) else (0, false)
  | _ => (0, false)
def impl_ReadDecimal.f (a0 : ByteArray) : Option (Int × Bool) := if a0.size ≤ 140737488351232 then some (readDec a0) else none
theorem within_any (n a b : Int) (w : World) : Calls Tryd.prog 28 #[.int .i64 n, .int .i64 a, .int .i64 b] w fun e w' => e = .returned (.bool (decide (a ≤ n) && decide (n ≤ b))) ∧ w = w' := by
  by_cases h : a ≤ n
  · have h' : decide (a ≤ n) = true := decide_eq_true h
    go_enter Tryd.func28, Tryd.ntmps28
    go_wp2
    go_ret
    exact ⟨by simp [h'], rfl⟩
  · have h' : decide (a ≤ n) = false := decide_eq_false h
    go_enter Tryd.func28, Tryd.ntmps28
    go_wp2
    go_ret
    exact ⟨by simp [h'], rfl⟩
theorem atoi_ok (s : ByteArray) (hs : s.size ≤ 140737488351232) (v : Int) (h : Lib.atoiAll s.data.toList = .ok v) (w : World) :
    Calls Tryd.prog 27 #[.string s] w fun e w' => e = .returned (.tuple #[.int .i64 v, .nilIface]) ∧ Below w.heap.size w w' :=
  (Tryd.strconv_Atoi_ok s (by omega) v h w).mono fun e w' ⟨he, hw⟩ => ⟨he, by
    rcases hw with rfl | ⟨t, rfl⟩
    · exact Below.refl _ _
    · exact Lib.bytesWorld_below _ _ _⟩
theorem atoi_bad (s : ByteArray) (hs : s.size ≤ 140737488351232) (h : ∀ v, Lib.atoiAll s.data.toList ≠ .ok v) (w : World) (herr : ErrsAt w) :
    Calls Tryd.prog 27 #[.string s] w fun e w' => (∃ (n : Int) (N : Nat), e = .returned (.tuple #[.int .i64 n, .iface 68 (.pointer (some ⟨N, 0, none⟩))])) ∧ Below w.heap.size w w' := by
  obtain ⟨⟨t1, p1, h1⟩, t2, p2, h2⟩ := herr
  cases ha : Lib.atoiAll s.data.toList with
  | ok v => exact absurd ha (h v)
  | «syntax» => exact (Tryd.strconv_Atoi_syntax_var s (by omega) ha t1 p1 w h1).mono fun e w' ⟨N, he, _, _, hb⟩ => ⟨⟨_, N, he⟩, hb⟩
  | range => exact (Tryd.strconv_Atoi_range_var s (by omega) ha t2 p2 w h2).mono fun e w' ⟨N, he, _, _, hb⟩ => ⟨⟨_, N, he⟩, hb⟩
set_option maxHeartbeats 2000000 in
set_option maxRecDepth 100000 in
theorem readDec_any (s : ByteArray) (w : World) (hs : s.size ≤ 140737488351232) (htab : TabAt w) (herr : ErrsAt w) :
    Calls Tryd.prog 10 #[.string s] w fun e w' => e = .returned (.tuple #[.int .i64 (readDec s).1, .bool (readDec s).2]) ∧ Below w.heap.size w w' := by
  by_cases hex : ∃ v, Lib.atoiAll s.data.toList = .ok v
  · obtain ⟨v, hv⟩ := hex
    have hA := atoi_ok s hs v hv w
    have HTAB := Aside0.mk htab
    clear htab herr
    have hb := Lib.atoiAll_bounds hv
    by_cases c1 : 0 ≤ v
    · by_cases c2 : v ≤ 1000000000
      · have hW : (decide (0 ≤ v) && decide (v ≤ 1000000000)) = true := by simp [c1, c2]
        have hw1 := fun w => within_any v 0 1000000000 w
        rw [hW] at hw1
        have hd := fun w1 (h : Below w.heap.size w w1) => dec_any v w1 hb.1 hb.2 (TabAt.on HTAB.out h)
        by_cases c3 : (⟨(Lib.itoa v).toArray⟩ : ByteArray) = s
        · have hr : readDec s = (v, true) := by unfold readDec; rw [hv]; simp only; rw [if_pos ⟨c1, c2, c3⟩]
          rw [hr]
          have c3b : ((⟨(Lib.itoa v).toArray⟩ : ByteArray).toList != s.toList) = false := by rw [c3]; simp
          have c3a : ((⟨(Lib.itoa v).toArray⟩ : ByteArray).toList == s.toList) = true := by rw [c3]; simp
          generalize (⟨(Lib.itoa v).toArray⟩ : ByteArray) = t at hd c3b c3a
          clear hv hr hW c3
          go_enter Tryd.func10, Tryd.ntmps10
          go_wp2_with (first
            | (go_at_call 27; refine hA.mono ?_; rintro e w1 ⟨rfl, hb1⟩; replace hd := hd w1 hb1)
            | (go_at_call 28; refine (hw1 _).mono ?_; rintro e w2 ⟨rfl, rfl⟩)
            | (go_at_call 8; refine hd.mono ?_; rintro e w3 ⟨rfl, hb3⟩))
          go_ret2
          exact ⟨rfl, hb1.trans (hb3.mono hb1.size)⟩
        · have hr : readDec s = (0, false) := by unfold readDec; rw [hv]; simp only; rw [if_neg (fun h => c3 h.2.2)]
          rw [hr]
          have c3b : ((⟨(Lib.itoa v).toArray⟩ : ByteArray).toList != s.toList) = true := bne_iff_ne.mpr fun h => c3 (WideShapes.bytes_inj (by rw [ByteArray.toList_eq, ByteArray.toList_eq] at h; exact h))
          have c3a : ((⟨(Lib.itoa v).toArray⟩ : ByteArray).toList == s.toList) = false := by simpa using c3b
          generalize (⟨(Lib.itoa v).toArray⟩ : ByteArray) = t at hd c3b c3a
          clear hv hr hW c3
          go_enter Tryd.func10, Tryd.ntmps10
          go_wp2_with (first
            | (go_at_call 27; refine hA.mono ?_; rintro e w1 ⟨rfl, hb1⟩; replace hd := hd w1 hb1)
            | (go_at_call 28; refine (hw1 _).mono ?_; rintro e w2 ⟨rfl, rfl⟩)
            | (go_at_call 8; refine hd.mono ?_; rintro e w3 ⟨rfl, hb3⟩))
          go_ret2
          exact ⟨rfl, hb1.trans (hb3.mono hb1.size)⟩
      · have hW : (decide (0 ≤ v) && decide (v ≤ 1000000000)) = false := by simp [c1, c2]
        have hw1 := fun w => within_any v 0 1000000000 w
        rw [hW] at hw1
        have hr : readDec s = (0, false) := by unfold readDec; rw [hv]; simp only; rw [if_neg (fun h => c2 h.2.1)]
        rw [hr]
        clear hv hr hW
        go_enter Tryd.func10, Tryd.ntmps10
        go_wp2_with (first
          | (go_at_call 27; refine hA.mono ?_; rintro e w1 ⟨rfl, hb1⟩)
          | (go_at_call 28; refine (hw1 _).mono ?_; rintro e w2 ⟨rfl, rfl⟩))
        go_ret2
        exact ⟨rfl, hb1⟩
    · have hW : (decide (0 ≤ v) && decide (v ≤ 1000000000)) = false := by simp [c1]
      have hw1 := fun w => within_any v 0 1000000000 w
      rw [hW] at hw1
      have hr : readDec s = (0, false) := by unfold readDec; rw [hv]; simp only; rw [if_neg (fun h => c1 h.1)]
      rw [hr]
      clear hv hr hW
      go_enter Tryd.func10, Tryd.ntmps10
      go_wp2_with (first
        | (go_at_call 27; refine hA.mono ?_; rintro e w1 ⟨rfl, hb1⟩)
        | (go_at_call 28; refine (hw1 _).mono ?_; rintro e w2 ⟨rfl, rfl⟩))
      go_ret2
      exact ⟨rfl, hb1⟩
  · have hA := atoi_bad s hs (fun v hv => hex ⟨v, hv⟩) w herr
    have hr : readDec s = (0, false) := by
      unfold readDec
      cases ha : Lib.atoiAll s.data.toList with
      | ok v => exact absurd ⟨v, ha⟩ hex
      | «syntax» => rfl
      | range => rfl
    rw [hr]
    clear htab herr hex hr
    go_enter Tryd.func10, Tryd.ntmps10
    go_wp2_with (go_at_call 27; refine hA.mono ?_; rintro e w1 ⟨⟨n, N, rfl⟩, hb1⟩)
    go_ret2
    exact ⟨rfl, hb1⟩
theorem impl_ReadDecimal.calls (a0 : ByteArray) (r1 : Int) (r2 : Bool) (w : World) (h : impl_ReadDecimal.f a0 = some (r1, r2)) (htab : TabAt w := by exact TabAt.on HTAB.out (by repeat (first | (with_reducible first | exact HB.out | exact Below.refl _ _ | apply below_alloc | apply pw_below_drewN | apply below_drew1) | exact HB.out)))
    (herr : ErrsAt w := by exact ErrsAt.on HERR.out (by repeat (first | (with_reducible first | exact HB.out | exact Below.refl _ _ | apply below_alloc | apply pw_below_drewN | apply below_drew1) | exact HB.out))) :
    Calls Tryd.prog 10 #[.string a0] w fun e w' => e = .returned (.tuple #[.int .i64 r1, .bool r2]) ∧ Below w.heap.size w w' := by
  unfold impl_ReadDecimal.f at h
  by_cases c : a0.size ≤ 140737488351232
  · rw [if_pos c] at h
    have h := Option.some.inj h
    have h1 : r1 = (readDec a0).1 := by rw [h]
    have h2 : r2 = (readDec a0).2 := by rw [h]
    subst h1
    subst h2
    exact readDec_any a0 w c htab herr
  · rw [if_neg c] at h; cases h
def strings_IndexByte.f (a0 : ByteArray) (a1 : Int) : Option (Int) := some (Lib.indexByte a0.data.toList a1.toNat.toUInt8)
theorem strings_IndexByte.calls (a0 : ByteArray) (a1 : Int) (r : Int) (w : World) (h : strings_IndexByte.f a0 a1 = some r) :
    Calls Tryd.prog 37 #[.string a0, .int .u8 a1] w fun e w' => e = .returned (.int .i64 r) ∧ Drawn0 w w' := by
  obtain rfl := Option.some.inj h
  exact (Tryd.strings_IndexByte a0 a1 w).mono fun e w' ⟨he, hw⟩ => ⟨he, by subst hw; exact Drawn0.refl _⟩
end Go.Proofs.YthajpckfodhhpaaDoor
