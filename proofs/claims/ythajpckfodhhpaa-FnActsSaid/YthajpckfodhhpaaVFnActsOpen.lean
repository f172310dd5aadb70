/- How a struct that comes in is read: its cells as values of the printed kinds. Used by the rows of the laws that take structs. No condition. -/
import Derived.Test.YthajpckfodhhpaaVFnActsWWords
import Derived.Deep.Slices
import Derived.ChangeArms
import Derived.DataReads
namespace Go.Proofs.Ythajpckfodhhpaa.Open
open Go.RowKit Go.Deep Go.ChangeShapes Go.WideShapes Go.Proofs.YthajpckfodhhpaaW.PrintWords
def Op {α : Type} (P : Program) (t : TypeId) (d : Kd α) (G : α → Prop) : Prop :=
  ∀ (H : Type) (enc : TypeId × Value → H) (w : World) (fuel : Nat) (cs : List Value) (r : DataW H × List MemPlace), DataW.trod enc P w 0 (fun _ => true) true fuel t cs = some r → ∃ x, d.K w x cs ∧ G x
section
variable {α β : Type} {P : Program} {t : TypeId} {d : Kd α} {d' : Kd β} {G : α → Prop} {G' : β → Prop}
theorem op_int {k : IntKind} (ht : P.underlying t = some (.int k)) : Op P t (Kd.int k) (fun x => (Lit.int k x).wf = true) := by
  intro H enc w fuel cs r h
  obtain ⟨n, rfl, _, hn⟩ := DataW.trod_int ht h
  exact ⟨n, rfl, hn⟩
theorem op_slice {e : TypeId} (ht : P.underlying t = some (.slice e)) (hc : P.cellsOf e = d.sz) (he : Op P e d G) : Op P t (Kd.slice e d) (fun l => l.length ≤ 9223372036854775807 ∧ ∀ x ∈ l, G x) := by
  intro H enc w fuel cs r h
  rcases open_slice ht h with ⟨rfl, _⟩ | ⟨a, len, cap, m, n, D, Pl, rfl, _, hl, hm, hmm, _, hx⟩
  · exact ⟨[], ⟨none, 0, rfl, Nat.le_refl _, ⟨rfl, by simp, fun h => absurd h (by simp)⟩⟩, by simp, by simp⟩
  · simp only [if_true] at hmm
    subst hmm
    simp only [maxLen] at hm
    have key : ∀ i, i < len → ∃ x cs', G x ∧ w.cells? 0 (a.add (i * d.sz)) d.sz = some cs' ∧ d.K w x cs' := by
      intro i hi
      obtain ⟨cs', h1, h2⟩ := hx i (by omega)
      obtain ⟨x, hk, hg⟩ := he H enc w n cs' _ h2
      rw [hc] at h1
      exact ⟨x, cs', hg, h1, hk⟩
    rcases Nat.eq_zero_or_pos len with h0 | hp
    · subst h0
      exact ⟨[], ⟨some a, m, rfl, Nat.zero_le _, ⟨rfl, by simp, fun h => absurd h (by simp)⟩⟩, by simp, by simp⟩
    · obtain ⟨x0, _⟩ := key 0 hp
      haveI : Inhabited α := ⟨x0⟩
      obtain ⟨f, hf⟩ := choose_lt (α := α) (p := fun i x => ∃ cs', G x ∧ w.cells? 0 (a.add (i * d.sz)) d.sz = some cs' ∧ d.K w x cs') key
      have hlen : ((List.range len).map f).length = len := by simp
      refine ⟨(List.range len).map f, ⟨some a, m, by rw [hlen], by rw [hlen]; exact hl, ?_⟩, by rw [hlen]; omega, fun x hxm => ?_⟩
      · rw [hlen]
        refine ⟨hlen, by omega, fun _ => ⟨a, rfl, fun j p hj => ?_⟩⟩
        have hjl : j < len := by have := (List.getElem?_eq_some_iff.1 hj).1; simpa using this
        obtain ⟨cs', _, h1, h2⟩ := hf j hjl
        have hp' : f j = p := by simpa [hjl] using hj
        obtain ⟨_, hl', hc'⟩ := World.cells?_some h1
        refine ⟨cs', hl', hp' ▸ h2, fun i u hu => ?_⟩
        have hi : i < d.sz := by have := (List.getElem?_eq_some_iff.1 hu).1; omega
        rw [← Deep.add_add, hc' i hi, hu]
      · obtain ⟨i, hi, rfl⟩ := List.mem_map.1 hxm
        exact (hf i (List.mem_range.1 hi)).choose_spec.1
end
end Go.Proofs.Ythajpckfodhhpaa.Open
