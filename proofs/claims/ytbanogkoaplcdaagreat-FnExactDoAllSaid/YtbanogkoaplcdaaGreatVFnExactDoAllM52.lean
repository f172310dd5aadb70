/- Parts of the proof of FnExactDoAll, one behind the other. No condition. -/
import Derived.Deep.Slices
import Derived.ChangeArms
import Derived.DataReads
import Derived.Test.YtbanogkoaplcdaaGreatVFnExactDoAllM51
import Derived.Lib.Strings
import Derived.Lib.Bytes
import Derived.Laws.Strings
namespace Go.Proofs.YtbanogkoaplcdaaGreat.Open
open Go.RowKit Go.Deep Go.ChangeShapes Go.WideShapes Go.Proofs.YtbanogkoaplcdaaGreatW.PrintWords
def Op {α : Type} (P : Program) (t : TypeId) (d : Kd α) (G : α → Prop) : Prop :=
  ∀ (H : Type) (enc : TypeId × Value → H) (w : World) (fuel : Nat) (cs : List Value) (r : DataW H × List MemPlace), DataW.trod enc P w 0 (fun _ => true) true fuel t cs = some r → ∃ x, d.K w x cs ∧ G x
def OpF {α : Type} (P : Program) (fs : Array Field) (o : Nat) (d : Kd α) (G : α → Prop) : Prop :=
  ∀ (H : Type) (enc : TypeId × Value → H) (w : World) (n : Nat) (cs : List Value) (xs : List (DataW H × List MemPlace)), cs.length = o + d.sz → xs.length = fs.size →
    (∀ (j : Nat) (f : Field), fs[j]? = some f → DataW.trod enc P w 0 (fun _ => true) true n f.type ((cs.drop f.offset).take (P.cellsOf f.type)) = xs[j]?) → ∃ x, d.K w x (cs.drop o) ∧ G x
section
variable {α β : Type} {P : Program} {t : TypeId} {d : Kd α} {d' : Kd β} {G : α → Prop} {G' : β → Prop}
theorem op_int {k : IntKind} (ht : P.underlying t = some (.int k)) : Op P t (Kd.int k) (fun x => (Lit.int k x).wf = true) := by
  intro H enc w fuel cs r h
  obtain ⟨n, rfl, _, hn⟩ := DataW.trod_int ht h
  exact ⟨n, rfl, hn⟩
theorem op_bool (ht : P.underlying t = some .bool) : Op P t Kd.bool (fun _ => True) := by
  intro H enc w fuel cs r h
  obtain ⟨b, rfl, _⟩ := DataW.trod_bool ht h
  exact ⟨b, rfl, trivial⟩
theorem op_string (ht : P.underlying t = some .string) : Op P t Kd.string (fun s => s.size ≤ 9223372036854775807) := by
  intro H enc w fuel cs r h
  obtain ⟨s, rfl, _, hs⟩ := DataW.trod_string ht h
  exact ⟨s, rfl, by simpa [maxLen] using hs⟩
theorem op_slice {e : TypeId} (ht : P.underlying t = some (.slice e)) (hc : P.cellsOf e = d.sz) (he : Op P e d G) : Op P t (Kd.slice e d) (fun l => l.length ≤ 9223372036854775807 ∧ ∀ x ∈ l, G x) := by
  intro H enc w fuel cs r h
  rcases open_slice ht h with ⟨rfl, _⟩ | ⟨a, len, cap, m, n, D, Pl, rfl, _, hl, hm, hmm, _, hx⟩
  · exact ⟨[], ⟨none, 0, rfl, Nat.le_refl _, ⟨rfl, by simp, fun h => absurd h (by simp)⟩⟩, by simp, by simp⟩
  · simp only [if_true] at hmm
    subst hmm
    simp only [maxLen] at hm
    have key : ∀ i, i < len → ∃ x cs', G x ∧ w.cells? 0 (a.add (i * d.sz)) d.sz = some cs' ∧ d.K w x cs' := by
      intro i hi
      obtain ⟨cs', h1, h2⟩ := hx i (by omega)
      obtain ⟨x, hk, hg⟩ := he H enc w n cs' _ h2
      rw [hc] at h1
      exact ⟨x, cs', hg, h1, hk⟩
    rcases Nat.eq_zero_or_pos len with h0 | hp
    · subst h0
      exact ⟨[], ⟨some a, m, rfl, Nat.zero_le _, ⟨rfl, by simp, fun h => absurd h (by simp)⟩⟩, by simp, by simp⟩
    · obtain ⟨x0, _⟩ := key 0 hp
      haveI : Inhabited α := ⟨x0⟩
      obtain ⟨f, hf⟩ := choose_lt (α := α) (p := fun i x => ∃ cs', G x ∧ w.cells? 0 (a.add (i * d.sz)) d.sz = some cs' ∧ d.K w x cs') key
      have hlen : ((List.range len).map f).length = len := by simp
      refine ⟨(List.range len).map f, ⟨some a, m, by rw [hlen], by rw [hlen]; exact hl, ?_⟩, by rw [hlen]; omega, fun x hxm => ?_⟩
      · rw [hlen]
        refine ⟨hlen, by omega, fun _ => ⟨a, rfl, fun j p hj => ?_⟩⟩
        have hjl : j < len := by have := (List.getElem?_eq_some_iff.1 hj).1; simpa using this
        obtain ⟨cs', _, h1, h2⟩ := hf j hjl
        have hp' : f j = p := by simpa [hjl] using hj
        obtain ⟨_, hl', hc'⟩ := World.cells?_some h1
        refine ⟨cs', hl', hp' ▸ h2, fun i u hu => ?_⟩
        have hi : i < d.sz := by have := (List.getElem?_eq_some_iff.1 hu).1; omega
        rw [← Deep.add_add, hc' i hi, hu]
      · obtain ⟨i, hi, rfl⟩ := List.mem_map.1 hxm
        exact (hf i (List.mem_range.1 hi)).choose_spec.1
theorem opf_last {fs : Array Field} {o : Nat} {f : Field} (i : Nat) (hf : fs[i]? = some f) (ho : f.offset = o) (hc : P.cellsOf f.type = d.sz) (h : Op P f.type d G) : OpF P fs o d G := by
  intro H enc w n cs xs hl hx hj
  have h1 := hj i f hf
  have hi : i < xs.length := by rw [hx]; exact (Array.getElem?_eq_some_iff.1 hf).1
  rw [List.getElem?_eq_getElem hi, ho, hc, List.take_of_length_le (by rw [List.length_drop]; omega)] at h1
  exact h H enc w n _ _ h1
theorem opf_cons {fs : Array Field} {o : Nat} {f : Field} (i : Nat) (hf : fs[i]? = some f) (ho : f.offset = o) (hc : P.cellsOf f.type = d.sz) (h : Op P f.type d G) (hr : OpF P fs (o + d.sz) d' G') : OpF P fs o (Kd.pair d d') (fun x => G x.1 ∧ G' x.2) := by
  intro H enc w n cs xs hl hx hj
  have h1 := hj i f hf
  have hi : i < xs.length := by rw [hx]; exact (Array.getElem?_eq_some_iff.1 hf).1
  rw [List.getElem?_eq_getElem hi, ho, hc] at h1
  obtain ⟨x, k1, g1⟩ := h H enc w n _ _ h1
  obtain ⟨y, k2, g2⟩ := hr H enc w n cs xs (by rw [hl, show (Kd.pair d d').sz = d.sz + d'.sz from rfl]; omega) hx hj
  refine ⟨(x, y), ⟨_, _, ?_, k1, k2⟩, g1, g2⟩
  rw [← List.drop_drop, List.take_append_drop]
theorem op_struct {fs : Array Field} (ht : P.underlying t = some (.struct fs)) (hc : P.cellsOf t = d.sz) (h : OpF P fs 0 d G) : Op P t d G := by
  intro H enc w fuel cs r hr
  obtain ⟨xs, n, _, _, hl, hxl, hj⟩ := DataW.trod_struct ht hr
  obtain ⟨x, k1, g1⟩ := h H enc w n cs xs (by rw [hl, hc]; omega) hxl hj
  exact ⟨x, k1, g1⟩
theorem op_iso {f : β → α} (g : α → β) (hg : ∀ y, f (g y) = y) (h : Op P t d G) : Op P t (Kd.iso d f) (fun x => G (f x)) := by
  intro H enc w fuel cs r hr
  obtain ⟨y, k1, g1⟩ := h H enc w fuel cs r hr
  exact ⟨g y, by show d.K w (f (g y)) cs; rw [hg]; exact k1, by show G (f (g y)); rw [hg]; exact g1⟩
theorem op_arg {r : Reach} {b0 : Nat} {fs : Array Field} {v : Value} {H : Type} {enc : TypeId × Value → H} {w : World} {dd : DataW H} {p : List MemPlace} (ht : P.underlying t = some (.struct fs)) (hv : Value.okWide P w r b0 t v) (h : DataW.Trod enc P w 0 (fun _ => true) true t v dd p) (ho : Op P t d G) :
    ∃ cs x, v = .agg cs ∧ d.K w x cs.toList ∧ G x := by
  obtain ⟨cs, rfl, _⟩ := okWide_struct ht hv
  obtain ⟨fuel, hf⟩ := h
  obtain ⟨x, k1, g1⟩ := ho H enc w fuel _ _ hf
  exact ⟨cs, x, rfl, by simpa [Value.cells] using k1, g1⟩
end
end Go.Proofs.YtbanogkoaplcdaaGreat.Open
namespace Go.Proofs.YtbanogkoaplcdaaGreat.QDa
open Go.RowKit Go.Proofs.YtbanogkoaplcdaaGreatW.PrintWords Go.Proofs.YtbanogkoaplcdaaGreat.Open
def G77 (x : S77) : Prop := x.f0.size ≤ 9223372036854775807 ∧ (Lit.int .i64 x.f1).wf = true ∧ (Lit.int .i64 x.f2).wf = true
def G53 (x : S53) : Prop := (Lit.int .i64 x.f0).wf = true ∧ (Lit.int .i64 x.f1).wf = true
def G80 (x : S80) : Prop := True ∧ x.f1.size ≤ 9223372036854775807 ∧ x.f2.size ≤ 9223372036854775807 ∧ (Lit.int .i64 x.f3).wf = true ∧ G53 x.f4
def G83 (x : S83) : Prop := x.f0.size ≤ 9223372036854775807 ∧ G53 x.f1 ∧ (Lit.int .i64 x.f2).wf = true ∧ G53 x.f3 ∧ (Lit.int .i64 x.f4).wf = true ∧ True
def G55 (x : S55) : Prop := G53 x.f0 ∧ (Lit.int .i64 x.f1).wf = true ∧ (x.f2.length ≤ 9223372036854775807 ∧ ∀ y ∈ x.f2, (Lit.int .i64 y).wf = true) ∧ (Lit.int .i64 x.f3).wf = true ∧ x.f4.size ≤ 9223372036854775807 ∧ x.f5.size ≤ 9223372036854775807 ∧ (Lit.int .i64 x.f6).wf = true ∧ G53 x.f7
def laws_FnExactDoAll.Pure : Prop := ∀ (l0_0 : List Int) (l0_1 : List S77) (l0_2 : List S80) (l0_3 : List S83) (l1 : List S55), (l0_0.length ≤ 9223372036854775807 ∧ ∀ x ∈ l0_0, (Lit.int .i64 x).wf = true) → (l0_1.length ≤ 9223372036854775807 ∧ ∀ x ∈ l0_1, G77 x) → (l0_2.length ≤ 9223372036854775807 ∧ ∀ x ∈ l0_2, G80 x) → (l0_3.length ≤ 9223372036854775807 ∧ ∀ x ∈ l0_3, G83 x) → (l1.length ≤ 9223372036854775807 ∧ ∀ x ∈ l1, G55 x) → ∃ k, laws_FnExactDoAll.f k l0_0 l0_1 l0_2 l0_3 l1 = some true
end Go.Proofs.YtbanogkoaplcdaaGreat.QDa
namespace Go.Proofs.YtbanogkoaplcdaaGreat.Plain
open Go.RowKit Go.Proofs.YtbanogkoaplcdaaGreatW.PrintWords
theorem wr (i : Nat) (h : i < 4611686018427387904) : wrap64 ((i : Int) + 1) = ((i + 1 : Nat) : Int) := by unfold wrap64; omega
theorem wi {n : Int} (h : -9223372036854775808 ≤ n ∧ n ≤ 9223372036854775807) : wrap64 n = n := by unfold wrap64; omega
def inB (x lo hi : Int) : Bool := decide (lo ≤ x) && decide (x ≤ hi)
theorem inB_true {x lo hi : Int} : inB x lo hi = true ↔ lo ≤ x ∧ x ≤ hi := by simp [inB]
theorem inB_false {x lo hi : Int} : inB x lo hi = false ↔ ¬ (lo ≤ x ∧ x ≤ hi) := by rw [← inB_true]; cases inB x lo hi <;> simp
theorem in_ite (x lo hi : Int) : (if x ≥ lo then some (decide (x ≤ hi)) else some false) = some (inB x lo hi) := by
  unfold inB
  by_cases h : lo ≤ x <;> simp [h]
theorem drop_rd (l : List Int) (i : Nat) (h : i < l.length) : l.drop i = rd l i :: l.drop (i + 1) := by
  rw [List.drop_eq_getElem_cons h]
  simp [rd, List.getD_eq_getElem?_getD, List.getElem?_eq_getElem h]
theorem rd_get (l : List Int) (i : Nat) (h : i < l.length) : rd l (i : Int) = l[i] := by simp [rd, List.getD_eq_getElem?_getD, List.getElem?_eq_getElem h]
theorem set_mid {α : Type} (l : List α) (z x : α) (i d : Nat) (h : i < l.length) (hx : l[i] = x) : (l.take i ++ List.replicate (d + 1) z).set (i : Int).toNat x = l.take (i + 1) ++ List.replicate d z := by
  rw [Int.toNat_natCast, List.set_append_right _ _ (by rw [List.length_take]; omega), List.length_take, show i - min i l.length = 0 by omega, List.replicate_succ, List.set_cons_zero, List.take_succ_eq_append_getElem h, hx, List.append_assoc]
  rfl
theorem take_set (l : List Int) (z : Int) (i d : Nat) (h : i < l.length) : (l.take i ++ List.replicate (d + 1) z).set (i : Int).toNat (rd l (i : Int)) = l.take (i + 1) ++ List.replicate d z :=
  set_mid l z _ i d h (rd_get l i h).symm
def marks {α : Type} (v : Int → α) (c : Int) : Nat → Int → List α
  | 0, _ => []
  | n + 1, m => v m :: marks v c n (m + c)
theorem marks_len {α : Type} (v : Int → α) (c : Int) : ∀ (n : Nat) (m : Int), (marks v c n m).length = n
  | 0, _ => rfl
  | n + 1, m => by simp [marks, marks_len v c n]
theorem marks_get {α : Type} (v : Int → α) (c : Int) (z : α) : ∀ (n : Nat) (m : Int) (i : Nat), i < n → (marks v c n m).getD i z = v (m + i * c)
  | 0, _, _, h => by omega
  | n + 1, m, 0, _ => by simp [marks]
  | n + 1, m, i + 1, h => by
    have := marks_get v c z n (m + c) i (by omega)
    rw [show marks v c (n + 1) m = v m :: marks v c n (m + c) from rfl, List.getD_cons_succ, this]
    congr 1
    rw [show ((i + 1 : Nat) : Int) = (i : Int) + 1 by omega, Int.add_mul]
    omega
theorem marks_snoc {α : Type} (v : Int → α) (c : Int) : ∀ (n : Nat) (m : Int), marks v c (n + 1) m = marks v c n m ++ [v (m + n * c)]
  | 0, m => by simp [marks]
  | n + 1, m => by
    rw [show marks v c (n + 1 + 1) m = v m :: marks v c (n + 1) (m + c) from rfl, marks_snoc v c n (m + c), show marks v c (n + 1) m = v m :: marks v c n (m + c) from rfl, List.cons_append]
    congr 4
    rw [show ((n + 1 : Nat) : Int) = (n : Int) + 1 by omega, Int.add_mul]
    omega
theorem marks_set {α : Type} (v : Int → α) (c : Int) (l : List α) (m : Int) (i : Nat) (h : i < l.length) (x : α) (hx : x = v (m + i * c)) : (marks v c i m ++ l.drop i).set (i : Int).toNat x = marks v c (i + 1) m ++ l.drop (i + 1) := by
  rw [Int.toNat_natCast, List.set_append_right _ _ (by rw [marks_len]; omega), marks_len, Nat.sub_self, List.drop_eq_getElem_cons h, List.set_cons_zero, marks_snoc, List.append_assoc, hx]
  rfl
theorem marks_mid {α : Type} (v : Int → α) (c : Int) (l : List α) (m : Int) (i : Nat) (h : i ≤ l.length) : (marks v c i m ++ l.drop i).length = l.length := by
  rw [List.length_append, marks_len, List.length_drop]; omega
theorem getD_set {α : Type} (l : List α) (i : Nat) (v z : α) (h : i < l.length) : (l.set i v).getD i z = v := by
  rw [List.getD_eq_getElem?_getD, List.getElem?_set_self h]; rfl
theorem drop_getD {α : Type} (l : List α) (i : Nat) (z : α) (h : i < l.length) : l.drop i = l.getD i z :: l.drop (i + 1) := by
  rw [List.drop_eq_getElem_cons h, List.getD_eq_getElem?_getD, List.getElem?_eq_getElem h]; rfl
theorem getD_get {α : Type} (l : List α) (i : Nat) (z : α) (h : i < l.length) : l.getD i z = l[i] := by
  rw [List.getD_eq_getElem?_getD, List.getElem?_eq_getElem h]; rfl
end Go.Proofs.YtbanogkoaplcdaaGreat.Plain
