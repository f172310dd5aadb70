/- A text's bytes in new memory, '[]byte(s)', as a row that is stored into: its block bears a conversion's mark behind the row, so it is told apart from the rows that make and literals give. No condition. -/
import Derived.Test.YtmohbiagcbfkpaaWWords
import Derived.Lib.ConvBytes
namespace Go.Proofs.Ytmohbiagcbfkpaa.Conv
open Go.RowKit Go.Proofs.YtmohbiagcbfkpaaW.PrintWords

/-- The row's cells, from the block's first on; what is marked lies behind them. -/
def R (e : Nat) (w : World) (base : Nat) (v : Value) (xs : List Int) : Prop :=
  ∃ (g cap : Nat) (cur : Array Value) (lo hi : Nat), v = .slice (some ⟨g, 0, none⟩) xs.length cap ∧ base ≤ g ∧ w.heap[g]? = some (.cells cur e (lo, hi)) ∧ xs.length ≤ lo ∧ xs.length ≤ cur.size ∧ ∀ j, j < xs.length → cur[j]? = some (.int .u8 (xs.getD j 0))
section
variable {e base : Nat} {w w1 : World} {v : Value} {xs : List Int}
theorem R_move (h : R e w base v xs) (hm : ∀ k, k < w.heap.size → w1.heap[k]? = w.heap[k]?) : R e w1 base v xs := by
  obtain ⟨g, cap, cur, lo, hi, hv, hb, hg, hr⟩ := h
  exact ⟨g, cap, cur, lo, hi, hv, hb, (hm g (Array.getElem?_eq_some_iff.1 hg).1).trans hg, hr⟩
theorem R_below (h : R e w base v xs) (hb : Below w.heap.size w w1) : R e w1 base v xs := R_move h (fun k hk => hb.block k hk)
theorem R_drew (h : R e w base v xs) : R e w.drew base v xs := R_below h (below_drew (Below.refl _ _))
theorem R_drewN (h : R e w base v xs) (m : Nat) : R e (w.drewN m) base v xs := R_below h (pw_below_drewN (Below.refl _ _) m)
theorem R_alloc (h : R e w base v xs) (o : Obj) : R e (w.alloc o) base v xs := R_below h (below_alloc (Below.refl _ _) o)
theorem R_lower {base' : Nat} (h : R e w base v xs) (hb : base' ≤ base) : R e w base' v xs := by
  obtain ⟨g, cap, cur, lo, hi, hv, h1, hr⟩ := h
  exact ⟨g, cap, cur, lo, hi, hv, by omega, hr⟩
theorem R_slice (h : R e w base v xs) : ∃ A c, v = .slice A xs.length c := by
  obtain ⟨g, cap, cur, lo, hi, hv, _⟩ := h
  exact ⟨_, _, hv⟩
theorem R_form (h : R e w base v xs) (_ : 0 < xs.length) : ∃ g cap, v = .slice (some ⟨g, 0, none⟩) xs.length cap ∧ base ≤ g ∧ g < w.heap.size ∧ ∃ cells fz, w.heap[g]? = some (.cells cells e fz) := by
  obtain ⟨g, cap, cur, lo, hi, hv, h1, h2, _⟩ := h
  exact ⟨g, cap, hv, h1, (Array.getElem?_eq_some_iff.1 h2).1, cur, _, h2⟩
theorem R_at {A : Option Addr} {n c : Nat} (h : R e w base (.slice A n c) xs) (i : Int) (h0 : 0 ≤ i) (h1 : i < (xs.length : Int)) : ∃ ad, A = some ad ∧ w.cell? (ad.add i.toNat) = some (.int .u8 (rd xs i)) := by
  obtain ⟨g, cap, cur, lo, hi, hv, _, hg, _, _, hc⟩ := h
  injection hv with e1 e2 e3
  refine ⟨_, e1, ?_⟩
  have ha : (⟨g, 0, none⟩ : Addr).add i.toNat = ⟨g, 0 + i.toNat, none⟩ := by unfold Addr.add; split <;> simp_all
  rw [ha, Nat.zero_add, cell_of_row w g _ cur e (lo, hi) hg, hc _ (by omega)]
  simp [rd]
theorem R_celln {g n cap : Nat} (h : R e w base (.slice (some ⟨g, 0, none⟩) n cap) xs) (i : Int) (h0 : 0 ≤ i) (h1 : i < (xs.length : Int)) : w.cell? ⟨g, i.toNat, none⟩ = some (.int .u8 (rd xs i)) ∧ w.frozen? ⟨g, i.toNat, none⟩ = false := by
  obtain ⟨g', cap', cur, lo, hi, hv, _, hg, hlo, _, hc⟩ := h
  injection hv with e1 e2 e3
  injection e1 with e1
  injection e1 with e1
  subst e1
  refine ⟨?_, ?_⟩
  · rw [cell_of_row w g _ cur e (lo, hi) hg, hc _ (by omega)]
    simp [rd]
  · simp only [World.frozen?, hg]
    have : ¬ lo ≤ i.toNat := by omega
    simp [this]
theorem R_putn {g n cap : Nat} (h : R e w base (.slice (some ⟨g, 0, none⟩) n cap) xs) (i : Int) (x : Int) : R e (w.setCell ⟨g, i.toNat, none⟩ (.int .u8 x)) base (.slice (some ⟨g, 0, none⟩) n cap) (xs.set i.toNat x) := by
  obtain ⟨g', cap', cur, lo, hi, hv, hb, hg, hlo, hs, hc⟩ := h
  injection hv with e1 e2 e3
  injection e1 with e1
  injection e1 with e1
  subst e1 e2 e3
  refine ⟨g, cap, cur.setIfInBounds i.toNat (.int .u8 x), lo, hi, by rw [List.length_set], hb, ?_, by rw [List.length_set]; exact hlo, by rw [List.length_set, Array.size_setIfInBounds]; exact hs, fun j hj => ?_⟩
  · simp [World.setCell, Array.getElem?_modify, hg]
  · rw [List.length_set] at hj
    by_cases c : i.toNat = j
    · subst c
      rw [Array.getElem?_setIfInBounds_self_of_lt (by omega), List.getD_eq_getElem?_getD, List.getElem?_set_self hj]
      rfl
    · rw [Array.getElem?_setIfInBounds_ne c, hc j hj, List.getD_eq_getElem?_getD, List.getD_eq_getElem?_getD, List.getElem?_set_ne c]
theorem R_string {P : Program} {src dst : TypeId} {e' : Nat} (hs : P.underlying src = some (.slice e')) (he : P.underlying e' = some (.int .u8)) (hd : P.underlying dst = some .string)
    (h : R e w base v xs) : (convert src dst v).run P w = .ok (.string (strOfNums xs)) w := by
  obtain ⟨g, cap, cur, lo, hi, rfl, _, hg, _, _, hc⟩ := h
  refine run_convert_bytes_arg w src e' hs he g 0 xs.length cap xs rfl (fun i hi => ?_) dst hd
  rw [Nat.zero_add, cell_of_row w g _ cur e (lo, _) hg, hc _ hi]
/-- By types alone: a row of another type does not lie there. -/
theorem R_types {α : Type} {d : Kd α} {e' : Nat} {b : Nat} {ok : Nat → Prop} {u : Value} {ys : List α} (h : d.R e' w b ok u ys) {g t : Nat} {cells : Array Value} (hb : ∃ fz, w.heap[g]? = some (.cells cells t fz)) (ht : ∀ q, q ∈ e' :: d.E → q ≠ t) : d.R e' w b (fun k => ok k ∧ k ≠ g) u ys :=
  Kd.R_mono (Kd.R_bound h) (fun k hk => ⟨hk.1, by
    obtain ⟨fz, hb⟩ := hb
    obtain ⟨_, _, _, q, hq, cells', hc⟩ := hk
    rintro rfl
    rw [hc] at hb
    injection hb with hb
    injection hb with _ hb
    exact ht q hq hb⟩)
end
section
variable {P : Program} {ops : Array Oper} {rest : List Oper} {o : Oper} {a : Act} {Q : Exit → Act → World → Prop}
theorem made {w0 W : World} (base e : Nat) (hgd : o.guard = none) {N : Tmp} (_hd : o.dst = some N) (src dst : TypeId) (x : Operand) (ho : o.op = .convert src dst x) (s : ByteArray) (hx : a.eval x = .string s) {u : TypeDesc} (hs : P.underlying src = some u) (ht : P.underlying dst = some (.slice e)) (he : P.underlying e = some (.int .u8))
    (HB : Below base w0 W) (hbase : base ≤ W.heap.size) (h : ∀ v1 w1, R e w1 base v1 (bytesOf s) → Below base w0 w1 → True → True → wpList P ops Q rest (a.put o.dst v1) w1) : wpList P ops Q (o :: rest) a W := by
  refine Kd.event_run hgd (v := .slice (some ⟨W.heap.size, 0, none⟩) s.size (grownCap W s.size 0 e)) (w1 := Lib.bytesWorld W e s) ?_ (h _ _ ?_ (bytes_below HB hbase e s) trivial trivial)
  · simp [execOp, ho, hx, print_bytes src dst e hs ht he s W]
  · refine ⟨W.heap.size, grownCap W s.size 0 e, Lib.bytesCells W e s, _, _, by rw [bytesOf_length], hbase, Lib.bytesWorld_at_new W e s, ?_, ?_, fun j hj => ?_⟩
    · rw [bytesOf_length]; simp [Lib.bytesCells]
    · rw [bytesOf_length]; simp [Lib.bytesCells]
    · rw [bytesOf_length] at hj
      have h2 := Lib.bytesWorld_cell W e s j hj
      rw [cell_of_row _ W.heap.size j _ e _ (Lib.bytesWorld_at_new W e s)] at h2
      rw [h2]
      have h' : j < s.data.toList.length := by rw [data_length]; exact hj
      simp [bytesOf, List.getD_eq_getElem?_getD, List.getElem?_eq_getElem h']
end
end Go.Proofs.Ytmohbiagcbfkpaa.Conv
