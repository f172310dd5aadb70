/- Parts of the proof of FnExactDoAct, one behind the other. No condition. -/
import Derived.Test.YtbanogkoaplcdaaVFnExactDoActM0
import Derived.Deep.Slices
import Derived.ChangeArms
import Derived.DataReads
namespace Go.Proofs.Ytbanogkoaplcdaa.Open
open Go.RowKit Go.Deep Go.ChangeShapes Go.WideShapes Go.Proofs.YtbanogkoaplcdaaW.PrintWords
def Op {α : Type} (P : Program) (t : TypeId) (d : Kd α) (G : α → Prop) : Prop :=
  ∀ (H : Type) (enc : TypeId × Value → H) (w : World) (fuel : Nat) (cs : List Value) (r : DataW H × List MemPlace), DataW.trod enc P w 0 (fun _ => true) true fuel t cs = some r → ∃ x, d.K w x cs ∧ G x
def OpF {α : Type} (P : Program) (fs : Array Field) (o : Nat) (d : Kd α) (G : α → Prop) : Prop :=
  ∀ (H : Type) (enc : TypeId × Value → H) (w : World) (n : Nat) (cs : List Value) (xs : List (DataW H × List MemPlace)), cs.length = o + d.sz → xs.length = fs.size →
    (∀ (j : Nat) (f : Field), fs[j]? = some f → DataW.trod enc P w 0 (fun _ => true) true n f.type ((cs.drop f.offset).take (P.cellsOf f.type)) = xs[j]?) → ∃ x, d.K w x (cs.drop o) ∧ G x
section
variable {α β : Type} {P : Program} {t : TypeId} {d : Kd α} {d' : Kd β} {G : α → Prop} {G' : β → Prop}
theorem op_int {k : IntKind} (ht : P.underlying t = some (.int k)) : Op P t (Kd.int k) (fun x => (Lit.int k x).wf = true) := by
 intro H enc w fuel cs r h
 obtain ⟨n, rfl, _, hn⟩ := DataW.trod_int ht h
 exact ⟨n, rfl, hn⟩
theorem op_bool (ht : P.underlying t = some .bool) : Op P t Kd.bool (fun _ => True) := by
 intro H enc w fuel cs r h
 obtain ⟨b, rfl, _⟩ := DataW.trod_bool ht h
 exact ⟨b, rfl, trivial⟩
theorem op_string (ht : P.underlying t = some .string) : Op P t Kd.string (fun s => s.size ≤ 9223372036854775807) := by
 intro H enc w fuel cs r h
 obtain ⟨s, rfl, _, hs⟩ := DataW.trod_string ht h
 exact ⟨s, rfl, by simpa [maxLen] using hs⟩
theorem op_slice {e : TypeId} (ht : P.underlying t = some (.slice e)) (hc : P.cellsOf e = d.sz) (he : Op P e d G) : Op P t (Kd.slice e d) (fun l => l.length ≤ 9223372036854775807 ∧ ∀ x ∈ l, G x) := by
 intro H enc w fuel cs r h
 rcases open_slice ht h with ⟨rfl, _⟩ | ⟨a, len, cap, m, n, D, Pl, rfl, _, hl, hm, hmm, _, hx⟩
 ·
  exact ⟨[], ⟨none, 0, rfl, Nat.le_refl _, ⟨rfl, by simp, fun h => absurd h (by simp)⟩⟩, by simp, by simp⟩
 ·
  simp only [if_true] at hmm
  subst hmm
  simp only [maxLen] at hm
  have key : ∀ i, i < len → ∃ x cs', G x ∧ w.cells? 0 (a.add (i * d.sz)) d.sz = some cs' ∧ d.K w x cs' := by
   intro i hi
   obtain ⟨cs', h1, h2⟩ := hx i (by omega)
   obtain ⟨x, hk, hg⟩ := he H enc w n cs' _ h2
   rw [hc] at h1
   exact ⟨x, cs', hg, h1, hk⟩
  rcases Nat.eq_zero_or_pos len with h0 | hp
  ·
   subst h0
   exact ⟨[], ⟨some a, m, rfl, Nat.zero_le _, ⟨rfl, by simp, fun h => absurd h (by simp)⟩⟩, by simp, by simp⟩
  ·
   obtain ⟨x0, _⟩ := key 0 hp
   haveI : Inhabited α := ⟨x0⟩
   obtain ⟨f, hf⟩ := choose_lt (α := α) (p := fun i x => ∃ cs', G x ∧ w.cells? 0 (a.add (i * d.sz)) d.sz = some cs' ∧ d.K w x cs') key
   have hlen : ((List.range len).map f).length = len := by simp
   refine ⟨(List.range len).map f, ⟨some a, m, by rw [hlen], by rw [hlen]; exact hl, ?_⟩, by rw [hlen]; omega, fun x hxm => ?_⟩
   ·
    rw [hlen]
    refine ⟨hlen, by omega, fun _ => ⟨a, rfl, fun j p hj => ?_⟩⟩
    have hjl : j < len := by have := (List.getElem?_eq_some_iff.1 hj).1; simpa using this
    obtain ⟨cs', _, h1, h2⟩ := hf j hjl
    have hp' : f j = p := by simpa [hjl] using hj
    obtain ⟨_, hl', hc'⟩ := World.cells?_some h1
    refine ⟨cs', hl', hp' ▸ h2, fun i u hu => ?_⟩
    have hi : i < d.sz := by have := (List.getElem?_eq_some_iff.1 hu).1; omega
    rw [← Deep.add_add, hc' i hi, hu]
   ·
    obtain ⟨i, hi, rfl⟩ := List.mem_map.1 hxm
    exact (hf i (List.mem_range.1 hi)).choose_spec.1
theorem opf_last {fs : Array Field} {o : Nat} {f : Field} (i : Nat) (hf : fs[i]? = some f) (ho : f.offset = o) (hc : P.cellsOf f.type = d.sz) (h : Op P f.type d G) : OpF P fs o d G := by
 intro H enc w n cs xs hl hx hj
 have h1 := hj i f hf
 have hi : i < xs.length := by rw [hx]; exact (Array.getElem?_eq_some_iff.1 hf).1
 rw [List.getElem?_eq_getElem hi, ho, hc, List.take_of_length_le (by rw [List.length_drop]; omega)] at h1
 exact h H enc w n _ _ h1
theorem opf_cons {fs : Array Field} {o : Nat} {f : Field} (i : Nat) (hf : fs[i]? = some f) (ho : f.offset = o) (hc : P.cellsOf f.type = d.sz) (h : Op P f.type d G) (hr : OpF P fs (o + d.sz) d' G') : OpF P fs o (Kd.pair d d') (fun x => G x.1 ∧ G' x.2) := by
 intro H enc w n cs xs hl hx hj
 have h1 := hj i f hf
 have hi : i < xs.length := by rw [hx]; exact (Array.getElem?_eq_some_iff.1 hf).1
 rw [List.getElem?_eq_getElem hi, ho, hc] at h1
 obtain ⟨x, k1, g1⟩ := h H enc w n _ _ h1
 obtain ⟨y, k2, g2⟩ := hr H enc w n cs xs (by rw [hl, show (Kd.pair d d').sz = d.sz + d'.sz from rfl]; omega) hx hj
 refine ⟨(x, y), ⟨_, _, ?_, k1, k2⟩, g1, g2⟩
 rw [← List.drop_drop, List.take_append_drop]
theorem op_struct {fs : Array Field} (ht : P.underlying t = some (.struct fs)) (hc : P.cellsOf t = d.sz) (h : OpF P fs 0 d G) : Op P t d G := by
 intro H enc w fuel cs r hr
 obtain ⟨xs, n, _, _, hl, hxl, hj⟩ := DataW.trod_struct ht hr
 obtain ⟨x, k1, g1⟩ := h H enc w n cs xs (by rw [hl, hc]; omega) hxl hj
 exact ⟨x, k1, g1⟩
theorem op_iso {f : β → α} (g : α → β) (hg : ∀ y, f (g y) = y) (h : Op P t d G) : Op P t (Kd.iso d f) (fun x => G (f x)) := by
 intro H enc w fuel cs r hr
 obtain ⟨y, k1, g1⟩ := h H enc w fuel cs r hr
 exact ⟨g y, by show d.K w (f (g y)) cs; rw [hg]; exact k1, by show G (f (g y)); rw [hg]; exact g1⟩
theorem op_arg {r : Reach} {b0 : Nat} {fs : Array Field} {v : Value} {H : Type} {enc : TypeId × Value → H} {w : World} {dd : DataW H} {p : List MemPlace} (ht : P.underlying t = some (.struct fs)) (hv : Value.okWide P w r b0 t v) (h : DataW.Trod enc P w 0 (fun _ => true) true t v dd p) (ho : Op P t d G) :
  ∃ cs x, v = .agg cs ∧ d.K w x cs.toList ∧ G x := by
 obtain ⟨cs, rfl, _⟩ := okWide_struct ht hv
 obtain ⟨fuel, hf⟩ := h
 obtain ⟨x, k1, g1⟩ := ho H enc w fuel _ _ hf
 exact ⟨cs, x, rfl, by simpa [Value.cells] using k1, g1⟩
end
end Go.Proofs.Ytbanogkoaplcdaa.Open
