/- Parts of the proof of FnExactDoAll, one behind the other. No condition. -/
import Derived.Test.YtbanogkoaplcdaaGreatVFnExactDoAllM0
namespace Go.Proofs.YtbanogkoaplcdaaGreat.Short
open Go.RowKit Go.Proofs.YtbanogkoaplcdaaGreatW.PrintWords Go.Proofs.YtbanogkoaplcdaaGreatW.PrintLast
theorem less_flip : ∀ (a b : List UInt8), (!(Op.bytesLess a b || a == b)) = Op.bytesLess b a
  | [], [] => by simp [Op.bytesLess]
  | [], _ :: _ => by simp [Op.bytesLess]
  | _ :: _, [] => by simp [Op.bytesLess]
  | x :: r, y :: s => by
    have ih := less_flip r s
    simp only [Op.bytesLess]
    by_cases h1 : x < y
    · have h2 : ¬ y < x := by rw [UInt8.lt_iff_toNat_lt] at h1 ⊢; omega
      have h3 : ¬ y = x := fun e => by subst e; exact h2 h1
      simp [h1, h2, h3]
    · by_cases h2 : y < x
      · have h3 : ¬ x = y := fun e => by subst e; exact h1 h2
        simp [h1, h2, h3]
      · have h3 : x = y := by
          have e1 : ¬ x.toNat < y.toNat := fun h => h1 (UInt8.lt_iff_toNat_lt.2 h)
          have e2 : ¬ y.toNat < x.toNat := fun h => h2 (UInt8.lt_iff_toNat_lt.2 h)
          exact UInt8.toNat_inj.1 (by omega)
        subst h3
        simpa using ih
theorem gtr_str (t : TypeId) (a b : ByteArray) : binOp .gtr t (.string a) (.string b) = pure (.bool (Op.bytesLess b.toList a.toList)) := by
  rw [← less_flip]; simp [binOp, Op.stringOp]
theorem cb_ {w w' w1 : World} {p : Addr} {v : Value} (hB : Aside0 (Below w.heap.size w w')) (h : w.cell? p = some v) (e : w1.cell? p = w'.cell? p := by rfl) : w1.cell? p = some v := e.trans ((hB.out.cell (World.block_lt_of_cell? w _ h)).trans h)
theorem gw_ (w : World) {w' : World} {g : Nat} (h : Below w.heap.size w w') (e : g = w'.heap.size) : Aside0 (w.heap.size ≤ g) := ⟨by rw [e]; exact below_size h⟩
theorem bc2 {w : World} {g : Nat} {t : TypeId} {v0 v1 : Value} (h : w.heap[g]? = some (.cells #[v0, v1] t (0, 0))) : w.cell? ⟨g, 0, none⟩ = some v0 ∧ w.cell? ⟨g, 1, none⟩ = some v1 ∧ w.frozen? ⟨g, 0, none⟩ = false ∧ w.frozen? ⟨g, 1, none⟩ = false := ⟨(blk_cell h 0).trans rfl, (blk_cell h 1).trans rfl, blk_frozen h 0, blk_frozen h 1⟩
theorem bc3 {w : World} {g : Nat} {t : TypeId} {v0 v1 v2 : Value} (h : w.heap[g]? = some (.cells #[v0, v1, v2] t (0, 0))) : w.cell? ⟨g, 0, none⟩ = some v0 ∧ w.cell? ⟨g, 1, none⟩ = some v1 ∧ w.cell? ⟨g, 2, none⟩ = some v2 ∧ w.frozen? ⟨g, 0, none⟩ = false ∧ w.frozen? ⟨g, 1, none⟩ = false ∧ w.frozen? ⟨g, 2, none⟩ = false := ⟨(blk_cell h 0).trans rfl, (blk_cell h 1).trans rfl, (blk_cell h 2).trans rfl, blk_frozen h 0, blk_frozen h 1, blk_frozen h 2⟩
theorem bc4 {w : World} {g : Nat} {t : TypeId} {v0 v1 v2 v3 : Value} (h : w.heap[g]? = some (.cells #[v0, v1, v2, v3] t (0, 0))) : w.cell? ⟨g, 0, none⟩ = some v0 ∧ w.cell? ⟨g, 1, none⟩ = some v1 ∧ w.cell? ⟨g, 2, none⟩ = some v2 ∧ w.cell? ⟨g, 3, none⟩ = some v3 ∧ w.frozen? ⟨g, 0, none⟩ = false ∧ w.frozen? ⟨g, 1, none⟩ = false ∧ w.frozen? ⟨g, 2, none⟩ = false ∧ w.frozen? ⟨g, 3, none⟩ = false := ⟨(blk_cell h 0).trans rfl, (blk_cell h 1).trans rfl, (blk_cell h 2).trans rfl, (blk_cell h 3).trans rfl, blk_frozen h 0, blk_frozen h 1, blk_frozen h 2, blk_frozen h 3⟩
theorem bc6 {w : World} {g : Nat} {t : TypeId} {v0 v1 v2 v3 v4 v5 : Value} (h : w.heap[g]? = some (.cells #[v0, v1, v2, v3, v4, v5] t (0, 0))) : w.cell? ⟨g, 0, none⟩ = some v0 ∧ w.cell? ⟨g, 1, none⟩ = some v1 ∧ w.cell? ⟨g, 2, none⟩ = some v2 ∧ w.cell? ⟨g, 3, none⟩ = some v3 ∧ w.cell? ⟨g, 4, none⟩ = some v4 ∧ w.cell? ⟨g, 5, none⟩ = some v5 ∧ w.frozen? ⟨g, 0, none⟩ = false ∧ w.frozen? ⟨g, 1, none⟩ = false ∧ w.frozen? ⟨g, 2, none⟩ = false ∧ w.frozen? ⟨g, 3, none⟩ = false ∧ w.frozen? ⟨g, 4, none⟩ = false ∧ w.frozen? ⟨g, 5, none⟩ = false := ⟨(blk_cell h 0).trans rfl, (blk_cell h 1).trans rfl, (blk_cell h 2).trans rfl, (blk_cell h 3).trans rfl, (blk_cell h 4).trans rfl, (blk_cell h 5).trans rfl, blk_frozen h 0, blk_frozen h 1, blk_frozen h 2, blk_frozen h 3, blk_frozen h 4, blk_frozen h 5⟩
theorem bc8 {w : World} {g : Nat} {t : TypeId} {v0 v1 v2 v3 v4 v5 v6 v7 : Value} (h : w.heap[g]? = some (.cells #[v0, v1, v2, v3, v4, v5, v6, v7] t (0, 0))) : w.cell? ⟨g, 0, none⟩ = some v0 ∧ w.cell? ⟨g, 1, none⟩ = some v1 ∧ w.cell? ⟨g, 2, none⟩ = some v2 ∧ w.cell? ⟨g, 3, none⟩ = some v3 ∧ w.cell? ⟨g, 4, none⟩ = some v4 ∧ w.cell? ⟨g, 5, none⟩ = some v5 ∧ w.cell? ⟨g, 6, none⟩ = some v6 ∧ w.cell? ⟨g, 7, none⟩ = some v7 ∧ w.frozen? ⟨g, 0, none⟩ = false ∧ w.frozen? ⟨g, 1, none⟩ = false ∧ w.frozen? ⟨g, 2, none⟩ = false ∧ w.frozen? ⟨g, 3, none⟩ = false ∧ w.frozen? ⟨g, 4, none⟩ = false ∧ w.frozen? ⟨g, 5, none⟩ = false ∧ w.frozen? ⟨g, 6, none⟩ = false ∧ w.frozen? ⟨g, 7, none⟩ = false := ⟨(blk_cell h 0).trans rfl, (blk_cell h 1).trans rfl, (blk_cell h 2).trans rfl, (blk_cell h 3).trans rfl, (blk_cell h 4).trans rfl, (blk_cell h 5).trans rfl, (blk_cell h 6).trans rfl, (blk_cell h 7).trans rfl, blk_frozen h 0, blk_frozen h 1, blk_frozen h 2, blk_frozen h 3, blk_frozen h 4, blk_frozen h 5, blk_frozen h 6, blk_frozen h 7⟩
theorem bc10 {w : World} {g : Nat} {t : TypeId} {v0 v1 v2 v3 v4 v5 v6 v7 v8 v9 : Value} (h : w.heap[g]? = some (.cells #[v0, v1, v2, v3, v4, v5, v6, v7, v8, v9] t (0, 0))) : w.cell? ⟨g, 0, none⟩ = some v0 ∧ w.cell? ⟨g, 1, none⟩ = some v1 ∧ w.cell? ⟨g, 2, none⟩ = some v2 ∧ w.cell? ⟨g, 3, none⟩ = some v3 ∧ w.cell? ⟨g, 4, none⟩ = some v4 ∧ w.cell? ⟨g, 5, none⟩ = some v5 ∧ w.cell? ⟨g, 6, none⟩ = some v6 ∧ w.cell? ⟨g, 7, none⟩ = some v7 ∧ w.cell? ⟨g, 8, none⟩ = some v8 ∧ w.cell? ⟨g, 9, none⟩ = some v9 ∧ w.frozen? ⟨g, 0, none⟩ = false ∧ w.frozen? ⟨g, 1, none⟩ = false ∧ w.frozen? ⟨g, 2, none⟩ = false ∧ w.frozen? ⟨g, 3, none⟩ = false ∧ w.frozen? ⟨g, 4, none⟩ = false ∧ w.frozen? ⟨g, 5, none⟩ = false ∧ w.frozen? ⟨g, 6, none⟩ = false ∧ w.frozen? ⟨g, 7, none⟩ = false ∧ w.frozen? ⟨g, 8, none⟩ = false ∧ w.frozen? ⟨g, 9, none⟩ = false := ⟨(blk_cell h 0).trans rfl, (blk_cell h 1).trans rfl, (blk_cell h 2).trans rfl, (blk_cell h 3).trans rfl, (blk_cell h 4).trans rfl, (blk_cell h 5).trans rfl, (blk_cell h 6).trans rfl, (blk_cell h 7).trans rfl, (blk_cell h 8).trans rfl, (blk_cell h 9).trans rfl, blk_frozen h 0, blk_frozen h 1, blk_frozen h 2, blk_frozen h 3, blk_frozen h 4, blk_frozen h 5, blk_frozen h 6, blk_frozen h 7, blk_frozen h 8, blk_frozen h 9⟩
theorem ev_ {a : Act} {i : Nat} {v : Value} (h : a.tmps[i]? = some v) : a.eval (.tmp i) = v := by simp [Act.eval, h]
theorem bb_ {w0 w w1 : World} {g : Nat} {o : Obj} (_ : Aside0 (w0.heap[g]? = some o)) (h : w.heap[g]? = some o) (hb : Below w.heap.size w w1) : Aside0 (w1.heap[g]? = some o) := ⟨blk_below h hb⟩
theorem nb_ {w0 w1 : World} {g b : Nat} {o : Obj} (_ : Aside0 (w0.heap[g]? = some o)) (h : w1.heap[g]? = some o) (e : b = w1.heap.size) : Aside0 (g ≠ b) := ⟨by rw [e]; exact Nat.ne_of_lt (blk_lt h)⟩
theorem nc_ {w0 w1 : World} {g b : Nat} {o : Obj} (_ : Aside0 (w0.heap[g]? = some o)) (h : w1.heap[g]? = some o) (e : b = w1.heap.size) : Aside0 (b ≠ g) := ⟨by rw [e]; exact Nat.ne_of_gt (blk_lt h)⟩
theorem bp2_0 {w : World} {g : Nat} {t : TypeId} {u v0 v1 : Value} (h : w.heap[g]? = some (.cells #[v0, v1] t (0, 0))) : (w.setCell ⟨g, 0, none⟩ u).heap[g]? = some (.cells #[u, v1] t (0, 0)) := blk_put h 0 _ rfl
theorem bp2_1 {w : World} {g : Nat} {t : TypeId} {u v0 v1 : Value} (h : w.heap[g]? = some (.cells #[v0, v1] t (0, 0))) : (w.setCell ⟨g, 1, none⟩ u).heap[g]? = some (.cells #[v0, u] t (0, 0)) := blk_put h 1 _ rfl
theorem bpa2 {w : World} {g : Nat} {t : TypeId} {v0 v1 u0 u1 : Value} (h : w.heap[g]? = some (.cells #[v0, v1] t (0, 0))) : ((w.setCell ⟨g, 0, none⟩ u0).setCell ⟨g, 1, none⟩ u1).heap[g]? = some (.cells #[u0, u1] t (0, 0)) := bp2_1 (bp2_0 h)
theorem bp3_0 {w : World} {g : Nat} {t : TypeId} {u v0 v1 v2 : Value} (h : w.heap[g]? = some (.cells #[v0, v1, v2] t (0, 0))) : (w.setCell ⟨g, 0, none⟩ u).heap[g]? = some (.cells #[u, v1, v2] t (0, 0)) := blk_put h 0 _ rfl
theorem bp3_1 {w : World} {g : Nat} {t : TypeId} {u v0 v1 v2 : Value} (h : w.heap[g]? = some (.cells #[v0, v1, v2] t (0, 0))) : (w.setCell ⟨g, 1, none⟩ u).heap[g]? = some (.cells #[v0, u, v2] t (0, 0)) := blk_put h 1 _ rfl
theorem bp3_2 {w : World} {g : Nat} {t : TypeId} {u v0 v1 v2 : Value} (h : w.heap[g]? = some (.cells #[v0, v1, v2] t (0, 0))) : (w.setCell ⟨g, 2, none⟩ u).heap[g]? = some (.cells #[v0, v1, u] t (0, 0)) := blk_put h 2 _ rfl
theorem bpa3 {w : World} {g : Nat} {t : TypeId} {v0 v1 v2 u0 u1 u2 : Value} (h : w.heap[g]? = some (.cells #[v0, v1, v2] t (0, 0))) : (((w.setCell ⟨g, 0, none⟩ u0).setCell ⟨g, 1, none⟩ u1).setCell ⟨g, 2, none⟩ u2).heap[g]? = some (.cells #[u0, u1, u2] t (0, 0)) := bp3_2 (bp3_1 (bp3_0 h))
theorem bp4_0 {w : World} {g : Nat} {t : TypeId} {u v0 v1 v2 v3 : Value} (h : w.heap[g]? = some (.cells #[v0, v1, v2, v3] t (0, 0))) : (w.setCell ⟨g, 0, none⟩ u).heap[g]? = some (.cells #[u, v1, v2, v3] t (0, 0)) := blk_put h 0 _ rfl
theorem bp4_1 {w : World} {g : Nat} {t : TypeId} {u v0 v1 v2 v3 : Value} (h : w.heap[g]? = some (.cells #[v0, v1, v2, v3] t (0, 0))) : (w.setCell ⟨g, 1, none⟩ u).heap[g]? = some (.cells #[v0, u, v2, v3] t (0, 0)) := blk_put h 1 _ rfl
theorem bp4_2 {w : World} {g : Nat} {t : TypeId} {u v0 v1 v2 v3 : Value} (h : w.heap[g]? = some (.cells #[v0, v1, v2, v3] t (0, 0))) : (w.setCell ⟨g, 2, none⟩ u).heap[g]? = some (.cells #[v0, v1, u, v3] t (0, 0)) := blk_put h 2 _ rfl
theorem bp4_3 {w : World} {g : Nat} {t : TypeId} {u v0 v1 v2 v3 : Value} (h : w.heap[g]? = some (.cells #[v0, v1, v2, v3] t (0, 0))) : (w.setCell ⟨g, 3, none⟩ u).heap[g]? = some (.cells #[v0, v1, v2, u] t (0, 0)) := blk_put h 3 _ rfl
theorem bpa4 {w : World} {g : Nat} {t : TypeId} {v0 v1 v2 v3 u0 u1 u2 u3 : Value} (h : w.heap[g]? = some (.cells #[v0, v1, v2, v3] t (0, 0))) : ((((w.setCell ⟨g, 0, none⟩ u0).setCell ⟨g, 1, none⟩ u1).setCell ⟨g, 2, none⟩ u2).setCell ⟨g, 3, none⟩ u3).heap[g]? = some (.cells #[u0, u1, u2, u3] t (0, 0)) := bp4_3 (bp4_2 (bp4_1 (bp4_0 h)))
theorem bp6_0 {w : World} {g : Nat} {t : TypeId} {u v0 v1 v2 v3 v4 v5 : Value} (h : w.heap[g]? = some (.cells #[v0, v1, v2, v3, v4, v5] t (0, 0))) : (w.setCell ⟨g, 0, none⟩ u).heap[g]? = some (.cells #[u, v1, v2, v3, v4, v5] t (0, 0)) := blk_put h 0 _ rfl
theorem bp6_1 {w : World} {g : Nat} {t : TypeId} {u v0 v1 v2 v3 v4 v5 : Value} (h : w.heap[g]? = some (.cells #[v0, v1, v2, v3, v4, v5] t (0, 0))) : (w.setCell ⟨g, 1, none⟩ u).heap[g]? = some (.cells #[v0, u, v2, v3, v4, v5] t (0, 0)) := blk_put h 1 _ rfl
theorem bp6_2 {w : World} {g : Nat} {t : TypeId} {u v0 v1 v2 v3 v4 v5 : Value} (h : w.heap[g]? = some (.cells #[v0, v1, v2, v3, v4, v5] t (0, 0))) : (w.setCell ⟨g, 2, none⟩ u).heap[g]? = some (.cells #[v0, v1, u, v3, v4, v5] t (0, 0)) := blk_put h 2 _ rfl
theorem bp6_3 {w : World} {g : Nat} {t : TypeId} {u v0 v1 v2 v3 v4 v5 : Value} (h : w.heap[g]? = some (.cells #[v0, v1, v2, v3, v4, v5] t (0, 0))) : (w.setCell ⟨g, 3, none⟩ u).heap[g]? = some (.cells #[v0, v1, v2, u, v4, v5] t (0, 0)) := blk_put h 3 _ rfl
theorem bp6_4 {w : World} {g : Nat} {t : TypeId} {u v0 v1 v2 v3 v4 v5 : Value} (h : w.heap[g]? = some (.cells #[v0, v1, v2, v3, v4, v5] t (0, 0))) : (w.setCell ⟨g, 4, none⟩ u).heap[g]? = some (.cells #[v0, v1, v2, v3, u, v5] t (0, 0)) := blk_put h 4 _ rfl
theorem bp6_5 {w : World} {g : Nat} {t : TypeId} {u v0 v1 v2 v3 v4 v5 : Value} (h : w.heap[g]? = some (.cells #[v0, v1, v2, v3, v4, v5] t (0, 0))) : (w.setCell ⟨g, 5, none⟩ u).heap[g]? = some (.cells #[v0, v1, v2, v3, v4, u] t (0, 0)) := blk_put h 5 _ rfl
theorem bpa6 {w : World} {g : Nat} {t : TypeId} {v0 v1 v2 v3 v4 v5 u0 u1 u2 u3 u4 u5 : Value} (h : w.heap[g]? = some (.cells #[v0, v1, v2, v3, v4, v5] t (0, 0))) : ((((((w.setCell ⟨g, 0, none⟩ u0).setCell ⟨g, 1, none⟩ u1).setCell ⟨g, 2, none⟩ u2).setCell ⟨g, 3, none⟩ u3).setCell ⟨g, 4, none⟩ u4).setCell ⟨g, 5, none⟩ u5).heap[g]? = some (.cells #[u0, u1, u2, u3, u4, u5] t (0, 0)) := bp6_5 (bp6_4 (bp6_3 (bp6_2 (bp6_1 (bp6_0 h)))))
theorem bp8_0 {w : World} {g : Nat} {t : TypeId} {u v0 v1 v2 v3 v4 v5 v6 v7 : Value} (h : w.heap[g]? = some (.cells #[v0, v1, v2, v3, v4, v5, v6, v7] t (0, 0))) : (w.setCell ⟨g, 0, none⟩ u).heap[g]? = some (.cells #[u, v1, v2, v3, v4, v5, v6, v7] t (0, 0)) := blk_put h 0 _ rfl
theorem bp8_1 {w : World} {g : Nat} {t : TypeId} {u v0 v1 v2 v3 v4 v5 v6 v7 : Value} (h : w.heap[g]? = some (.cells #[v0, v1, v2, v3, v4, v5, v6, v7] t (0, 0))) : (w.setCell ⟨g, 1, none⟩ u).heap[g]? = some (.cells #[v0, u, v2, v3, v4, v5, v6, v7] t (0, 0)) := blk_put h 1 _ rfl
theorem bp8_2 {w : World} {g : Nat} {t : TypeId} {u v0 v1 v2 v3 v4 v5 v6 v7 : Value} (h : w.heap[g]? = some (.cells #[v0, v1, v2, v3, v4, v5, v6, v7] t (0, 0))) : (w.setCell ⟨g, 2, none⟩ u).heap[g]? = some (.cells #[v0, v1, u, v3, v4, v5, v6, v7] t (0, 0)) := blk_put h 2 _ rfl
theorem bp8_3 {w : World} {g : Nat} {t : TypeId} {u v0 v1 v2 v3 v4 v5 v6 v7 : Value} (h : w.heap[g]? = some (.cells #[v0, v1, v2, v3, v4, v5, v6, v7] t (0, 0))) : (w.setCell ⟨g, 3, none⟩ u).heap[g]? = some (.cells #[v0, v1, v2, u, v4, v5, v6, v7] t (0, 0)) := blk_put h 3 _ rfl
theorem bp8_4 {w : World} {g : Nat} {t : TypeId} {u v0 v1 v2 v3 v4 v5 v6 v7 : Value} (h : w.heap[g]? = some (.cells #[v0, v1, v2, v3, v4, v5, v6, v7] t (0, 0))) : (w.setCell ⟨g, 4, none⟩ u).heap[g]? = some (.cells #[v0, v1, v2, v3, u, v5, v6, v7] t (0, 0)) := blk_put h 4 _ rfl
theorem bp8_5 {w : World} {g : Nat} {t : TypeId} {u v0 v1 v2 v3 v4 v5 v6 v7 : Value} (h : w.heap[g]? = some (.cells #[v0, v1, v2, v3, v4, v5, v6, v7] t (0, 0))) : (w.setCell ⟨g, 5, none⟩ u).heap[g]? = some (.cells #[v0, v1, v2, v3, v4, u, v6, v7] t (0, 0)) := blk_put h 5 _ rfl
theorem bp8_6 {w : World} {g : Nat} {t : TypeId} {u v0 v1 v2 v3 v4 v5 v6 v7 : Value} (h : w.heap[g]? = some (.cells #[v0, v1, v2, v3, v4, v5, v6, v7] t (0, 0))) : (w.setCell ⟨g, 6, none⟩ u).heap[g]? = some (.cells #[v0, v1, v2, v3, v4, v5, u, v7] t (0, 0)) := blk_put h 6 _ rfl
theorem bp8_7 {w : World} {g : Nat} {t : TypeId} {u v0 v1 v2 v3 v4 v5 v6 v7 : Value} (h : w.heap[g]? = some (.cells #[v0, v1, v2, v3, v4, v5, v6, v7] t (0, 0))) : (w.setCell ⟨g, 7, none⟩ u).heap[g]? = some (.cells #[v0, v1, v2, v3, v4, v5, v6, u] t (0, 0)) := blk_put h 7 _ rfl
theorem bpa8 {w : World} {g : Nat} {t : TypeId} {v0 v1 v2 v3 v4 v5 v6 v7 u0 u1 u2 u3 u4 u5 u6 u7 : Value} (h : w.heap[g]? = some (.cells #[v0, v1, v2, v3, v4, v5, v6, v7] t (0, 0))) : ((((((((w.setCell ⟨g, 0, none⟩ u0).setCell ⟨g, 1, none⟩ u1).setCell ⟨g, 2, none⟩ u2).setCell ⟨g, 3, none⟩ u3).setCell ⟨g, 4, none⟩ u4).setCell ⟨g, 5, none⟩ u5).setCell ⟨g, 6, none⟩ u6).setCell ⟨g, 7, none⟩ u7).heap[g]? = some (.cells #[u0, u1, u2, u3, u4, u5, u6, u7] t (0, 0)) := bp8_7 (bp8_6 (bp8_5 (bp8_4 (bp8_3 (bp8_2 (bp8_1 (bp8_0 h)))))))
theorem bp10_0 {w : World} {g : Nat} {t : TypeId} {u v0 v1 v2 v3 v4 v5 v6 v7 v8 v9 : Value} (h : w.heap[g]? = some (.cells #[v0, v1, v2, v3, v4, v5, v6, v7, v8, v9] t (0, 0))) : (w.setCell ⟨g, 0, none⟩ u).heap[g]? = some (.cells #[u, v1, v2, v3, v4, v5, v6, v7, v8, v9] t (0, 0)) := blk_put h 0 _ rfl
theorem bp10_1 {w : World} {g : Nat} {t : TypeId} {u v0 v1 v2 v3 v4 v5 v6 v7 v8 v9 : Value} (h : w.heap[g]? = some (.cells #[v0, v1, v2, v3, v4, v5, v6, v7, v8, v9] t (0, 0))) : (w.setCell ⟨g, 1, none⟩ u).heap[g]? = some (.cells #[v0, u, v2, v3, v4, v5, v6, v7, v8, v9] t (0, 0)) := blk_put h 1 _ rfl
theorem bp10_2 {w : World} {g : Nat} {t : TypeId} {u v0 v1 v2 v3 v4 v5 v6 v7 v8 v9 : Value} (h : w.heap[g]? = some (.cells #[v0, v1, v2, v3, v4, v5, v6, v7, v8, v9] t (0, 0))) : (w.setCell ⟨g, 2, none⟩ u).heap[g]? = some (.cells #[v0, v1, u, v3, v4, v5, v6, v7, v8, v9] t (0, 0)) := blk_put h 2 _ rfl
theorem bp10_3 {w : World} {g : Nat} {t : TypeId} {u v0 v1 v2 v3 v4 v5 v6 v7 v8 v9 : Value} (h : w.heap[g]? = some (.cells #[v0, v1, v2, v3, v4, v5, v6, v7, v8, v9] t (0, 0))) : (w.setCell ⟨g, 3, none⟩ u).heap[g]? = some (.cells #[v0, v1, v2, u, v4, v5, v6, v7, v8, v9] t (0, 0)) := blk_put h 3 _ rfl
theorem bp10_4 {w : World} {g : Nat} {t : TypeId} {u v0 v1 v2 v3 v4 v5 v6 v7 v8 v9 : Value} (h : w.heap[g]? = some (.cells #[v0, v1, v2, v3, v4, v5, v6, v7, v8, v9] t (0, 0))) : (w.setCell ⟨g, 4, none⟩ u).heap[g]? = some (.cells #[v0, v1, v2, v3, u, v5, v6, v7, v8, v9] t (0, 0)) := blk_put h 4 _ rfl
theorem bp10_5 {w : World} {g : Nat} {t : TypeId} {u v0 v1 v2 v3 v4 v5 v6 v7 v8 v9 : Value} (h : w.heap[g]? = some (.cells #[v0, v1, v2, v3, v4, v5, v6, v7, v8, v9] t (0, 0))) : (w.setCell ⟨g, 5, none⟩ u).heap[g]? = some (.cells #[v0, v1, v2, v3, v4, u, v6, v7, v8, v9] t (0, 0)) := blk_put h 5 _ rfl
theorem bp10_6 {w : World} {g : Nat} {t : TypeId} {u v0 v1 v2 v3 v4 v5 v6 v7 v8 v9 : Value} (h : w.heap[g]? = some (.cells #[v0, v1, v2, v3, v4, v5, v6, v7, v8, v9] t (0, 0))) : (w.setCell ⟨g, 6, none⟩ u).heap[g]? = some (.cells #[v0, v1, v2, v3, v4, v5, u, v7, v8, v9] t (0, 0)) := blk_put h 6 _ rfl
theorem bp10_7 {w : World} {g : Nat} {t : TypeId} {u v0 v1 v2 v3 v4 v5 v6 v7 v8 v9 : Value} (h : w.heap[g]? = some (.cells #[v0, v1, v2, v3, v4, v5, v6, v7, v8, v9] t (0, 0))) : (w.setCell ⟨g, 7, none⟩ u).heap[g]? = some (.cells #[v0, v1, v2, v3, v4, v5, v6, u, v8, v9] t (0, 0)) := blk_put h 7 _ rfl
theorem bp10_8 {w : World} {g : Nat} {t : TypeId} {u v0 v1 v2 v3 v4 v5 v6 v7 v8 v9 : Value} (h : w.heap[g]? = some (.cells #[v0, v1, v2, v3, v4, v5, v6, v7, v8, v9] t (0, 0))) : (w.setCell ⟨g, 8, none⟩ u).heap[g]? = some (.cells #[v0, v1, v2, v3, v4, v5, v6, v7, u, v9] t (0, 0)) := blk_put h 8 _ rfl
theorem bp10_9 {w : World} {g : Nat} {t : TypeId} {u v0 v1 v2 v3 v4 v5 v6 v7 v8 v9 : Value} (h : w.heap[g]? = some (.cells #[v0, v1, v2, v3, v4, v5, v6, v7, v8, v9] t (0, 0))) : (w.setCell ⟨g, 9, none⟩ u).heap[g]? = some (.cells #[v0, v1, v2, v3, v4, v5, v6, v7, v8, u] t (0, 0)) := blk_put h 9 _ rfl
theorem bpa10 {w : World} {g : Nat} {t : TypeId} {v0 v1 v2 v3 v4 v5 v6 v7 v8 v9 u0 u1 u2 u3 u4 u5 u6 u7 u8 u9 : Value} (h : w.heap[g]? = some (.cells #[v0, v1, v2, v3, v4, v5, v6, v7, v8, v9] t (0, 0))) : ((((((((((w.setCell ⟨g, 0, none⟩ u0).setCell ⟨g, 1, none⟩ u1).setCell ⟨g, 2, none⟩ u2).setCell ⟨g, 3, none⟩ u3).setCell ⟨g, 4, none⟩ u4).setCell ⟨g, 5, none⟩ u5).setCell ⟨g, 6, none⟩ u6).setCell ⟨g, 7, none⟩ u7).setCell ⟨g, 8, none⟩ u8).setCell ⟨g, 9, none⟩ u9).heap[g]? = some (.cells #[u0, u1, u2, u3, u4, u5, u6, u7, u8, u9] t (0, 0)) := bp10_9 (bp10_8 (bp10_7 (bp10_6 (bp10_5 (bp10_4 (bp10_3 (bp10_2 (bp10_1 (bp10_0 h)))))))))
def mb (n k : Nat) : Array Bool := ((List.range n).map k.testBit).toArray
theorem ln2 {w : World} {g : Nat} {t : TypeId} {v0 v1 : Value} (h : Aside0 (w.heap[g]? = some (.cells #[v0, v1] t (0, 0)))) : w.cell? ⟨g, 0, none⟩ = some v0 ∧ w.cell? ⟨g, 1, none⟩ = some v1 := ⟨(blk_cell h.out 0).trans rfl, (blk_cell h.out 1).trans rfl⟩
theorem jn2 {w : World} {g : Nat} {t : TypeId} {v0 v1 : Value} {R : Prop} (h : Aside0 (w.heap[g]? = some (.cells #[v0, v1] t (0, 0)))) (r : R) : w.cell? ⟨g, 0, none⟩ = some v0 ∧ w.cell? ⟨g, 1, none⟩ = some v1 ∧ R := ⟨(blk_cell h.out 0).trans rfl, (blk_cell h.out 1).trans rfl, r⟩
theorem ln3 {w : World} {g : Nat} {t : TypeId} {v0 v1 v2 : Value} (h : Aside0 (w.heap[g]? = some (.cells #[v0, v1, v2] t (0, 0)))) : w.cell? ⟨g, 0, none⟩ = some v0 ∧ w.cell? ⟨g, 1, none⟩ = some v1 ∧ w.cell? ⟨g, 2, none⟩ = some v2 := ⟨(blk_cell h.out 0).trans rfl, (blk_cell h.out 1).trans rfl, (blk_cell h.out 2).trans rfl⟩
theorem jn3 {w : World} {g : Nat} {t : TypeId} {v0 v1 v2 : Value} {R : Prop} (h : Aside0 (w.heap[g]? = some (.cells #[v0, v1, v2] t (0, 0)))) (r : R) : w.cell? ⟨g, 0, none⟩ = some v0 ∧ w.cell? ⟨g, 1, none⟩ = some v1 ∧ w.cell? ⟨g, 2, none⟩ = some v2 ∧ R := ⟨(blk_cell h.out 0).trans rfl, (blk_cell h.out 1).trans rfl, (blk_cell h.out 2).trans rfl, r⟩
section
variable {P : Program} {ops : Array Oper} {Q : Exit → Act → World → Prop} {md : Region.Mode} {S : World → Prop} {ds : List Nat}
theorem p_ {i : Nat} {N : Option Tmp} {oi : Oper} {v : Value} {fuel : Nat} {l : Array Bool} {a a' : Act} {w : World} (l' : Array Bool) (h : wpAnyLast P md ops Q S ds fuel l' a' w) (hi : ops[i]? = some oi := by rfl) (hN : oi.dst = N := by rfl) (hc : anyB md ops l l' i = true := by exact any_of HT_.out (by kernel_rfl))
    (hQ : ∀ c a w, Q (.panic c) (a.put oi.dst v) w → Q (.panic c) a w := by exact fun _ _ _ h => h) (hw : Region.wanted oi (yielded ops a.tmps) = true := by rfl) (hv : ∀ w', (execOp a.eval oi).run P w' = .ok (.value v) w' := by intro w'; go_simp; with_reducible rfl)
    (ha : a.put N v = a' := by simp only [Act.put, List.setIfInBounds_toArray, List.set_cons_zero, List.set_cons_succ, i64_w, i32_w]; rfl) : wpAnyLast P md ops Q S ds (fuel + 1) l a w :=
  pure_ l' hi hN hc hQ (Or.inl ⟨hw, hv⟩) ha h
theorem u_ {i : Nat} {N : Option Tmp} {oi : Oper} {fuel : Nat} {l : Array Bool} {a a' : Act} {w : World} (l' : Array Bool) (h : wpAnyLast P md ops Q S ds fuel l' a' w) (hi : ops[i]? = some oi := by rfl) (hN : oi.dst = N := by rfl) (hc : anyB md ops l l' i = true := by exact any_of HT_.out (by kernel_rfl))
    (hQ : ∀ c a w, Q (.panic c) (a.put oi.dst undef) w → Q (.panic c) a w := by exact fun _ _ _ h => h) (hw : Region.wanted oi (yielded ops a.tmps) = false := by rfl)
    (ha : a.put N undef = a' := by simp only [Act.put, List.setIfInBounds_toArray, List.set_cons_zero, List.set_cons_succ, i64_w, i32_w]; rfl) : wpAnyLast P md ops Q S ds (fuel + 1) l a w :=
  pure_ l' hi hN hc hQ (Or.inr ⟨hw, rfl⟩) ha h
theorem t_ {i : Nat} {N : Option Tmp} {oi : Oper} {v : Value} {fuel : Nat} {l : Array Bool} {a a' : Act} {w : World} (l' : Array Bool) (hS : S w) (h : wpAnyLast P md ops Q S ds fuel l' a' w) (hi : ops[i]? = some oi := by rfl) (hN : oi.dst = N := by rfl) (hc : takeB md ops ds l l' i = true := by exact take_ofW HT_.out HW_.out (by kernel_rfl))
    (hQ : ∀ c a w, Q (.panic c) (a.put oi.dst v) w → Q (.panic c) a w := by exact fun _ _ _ h => h) (hw : Region.wanted oi (yielded ops a.tmps) = true := by rfl) (hv : ∀ w', S w' → (execOp a.eval oi).run P w' = .ok (.value v) w' := by intro w' hs; go_simp; with_reducible rfl)
    (ha : a.put N v = a' := by simp only [Act.put, List.setIfInBounds_toArray, List.set_cons_zero, List.set_cons_succ, i64_w, i32_w]; rfl) : wpAnyLast P md ops Q S ds (fuel + 1) l a w :=
  take_ l' hi hN hc hQ (Or.inl ⟨hw, hv⟩) hS ha h
theorem n_ {fuel : Nat} {l : Array Bool} {a : Act} {N : Option Tmp} {v : Value} {a' : Act} {w : World} (h : wpAnyLast P md ops Q S ds fuel l a' w) (ha : a.put N v = a' := by simp only [Act.put, List.setIfInBounds_toArray, List.set_cons_zero, List.set_cons_succ, i64_w, i32_w]; rfl) : wpAnyLast P md ops Q S ds fuel l (a.put N v) w := norm_ ha h
theorem o_ {i : Nat} {N : Option Tmp} {oi : Oper} {fuel : Nat} {l : Array Bool} {a : Act} {w : World} (l' : Array Bool)
    (h : ∀ K : Act → World → Prop, Shut (∀ a' w', S w' → (S w' → wpAnyLast P md ops Q S ds fuel l' a' w') → K a' w') → if Region.wanted oi (yielded ops a.tmps) = true then Oper.wp P oi a w K Q else K (a.put N undef) w) (hi : ops[i]? = some oi := by rfl) (hN : oi.dst = N := by rfl) (hc : readyB md ops l l' i = true := by exact one_of HT_.out (by kernel_rfl)) (hd : i ∉ ds := by decide) :
    wpAnyLast P md ops Q S ds (fuel + 1) l a w := one_ l' hi hN hc hd h
end
end Go.Proofs.YtbanogkoaplcdaaGreat.Short
set_option linter.unusedVariables false
namespace Go.Proofs.YtbanogkoaplcdaaGreat.Auto
open Go.RowKit Go.Proofs.YtbanogkoaplcdaaGreatW.PrintWords Go.Proofs.YtbanogkoaplcdaaGreatW.PrintLast Go.Proofs.YtbanogkoaplcdaaGreat.Short
def pre (n i : Nat) : Array Bool := ((List.range n).map fun q => decide (q < i)).toArray
def notCall : Op → Bool
  | .call c => match c.callee with
    | .builtin .len => true
    | _ => false
  | _ => true
section
variable {P : Program} {ops : Array Oper} {Q : Exit → Act → World → Prop} {md : Region.Mode} {S : World → Prop} {ds : List Nat}
theorem us_ {n i j : Nat} {N : Tmp} {op : Op} {ty : TypeId} {ps : String} {af : Array Edge} {gd : Option (Nat × Bool)} {fuel : Nat} {a a' : Act} {w : World} (h : wpAnyLast P md ops Q S ds fuel (pre n j) a' w) (hj : i + 1 = j := by simp only [Nat.reduceAdd]; rfl) (hi : ops[i]? = some ⟨some N, op, ty, ps, af, gd⟩ := by rfl)
    (hw : Region.wanted ⟨some N, op, ty, ps, af, gd⟩ (yielded ops a.tmps) = false := by rfl) (hc : anyB md ops (pre n i) (pre n j) i = true := by exact any_of HT_.out (by kernel_rfl))
    (hQ : ∀ c a w, Q (.panic c) (a.put (some N) undef) w → Q (.panic c) a w := by exact fun _ _ _ h => h)
    (ha : a.put (some N) undef = a' := by simp only [Act.put, List.setIfInBounds_toArray, List.set_cons_zero, List.set_cons_succ, i64_w, i32_w]; rfl) : wpAnyLast P md ops Q S ds (fuel + 1) (pre n i) a w :=
  pure_ _ hi rfl hc hQ (Or.inr ⟨hw, rfl⟩) ha h
theorem ps_ {n i j : Nat} {N : Tmp} {op : Op} {ty : TypeId} {ps : String} {af : Array Edge} {gd : Option (Nat × Bool)} {v : Value} {fuel : Nat} {a a' : Act} {w : World} (h : wpAnyLast P md ops Q S ds fuel (pre n j) a' w) (hj : i + 1 = j := by simp only [Nat.reduceAdd]; rfl) (hi : ops[i]? = some ⟨some N, op, ty, ps, af, gd⟩ := by rfl)
    (hq : notCall op = true := by rfl) (hw : Region.wanted ⟨some N, op, ty, ps, af, gd⟩ (yielded ops a.tmps) = true := by rfl) (hc : anyB md ops (pre n i) (pre n j) i = true := by exact any_of HT_.out (by kernel_rfl))
    (hQ : ∀ c a w, Q (.panic c) (a.put (some N) v) w → Q (.panic c) a w := by exact fun _ _ _ h => h) (hv : ∀ w', (execOp a.eval ⟨some N, op, ty, ps, af, gd⟩).run P w' = .ok (.value v) w' := by intro w'; go_simp; with_reducible rfl)
    (ha : a.put (some N) v = a' := by simp only [Act.put, List.setIfInBounds_toArray, List.set_cons_zero, List.set_cons_succ, i64_w, i32_w]; rfl) : wpAnyLast P md ops Q S ds (fuel + 1) (pre n i) a w :=
  pure_ _ hi rfl hc hQ (Or.inl ⟨hw, hv⟩) ha h
theorem ts_ {n i j : Nat} {N : Tmp} {op : Op} {ty : TypeId} {ps : String} {af : Array Edge} {gd : Option (Nat × Bool)} {v : Value} {fuel : Nat} {a a' : Act} {w : World} (hS : S w) (h : wpAnyLast P md ops Q S ds fuel (pre n j) a' w) (hj : i + 1 = j := by simp only [Nat.reduceAdd]; rfl) (hi : ops[i]? = some ⟨some N, op, ty, ps, af, gd⟩ := by rfl)
    (hq : notCall op = true := by rfl) (hw : Region.wanted ⟨some N, op, ty, ps, af, gd⟩ (yielded ops a.tmps) = true := by rfl) (hc : takeB md ops ds (pre n i) (pre n j) i = true := by exact take_ofW HT_.out HW_.out (by kernel_rfl))
    (hQ : ∀ c a w, Q (.panic c) (a.put (some N) v) w → Q (.panic c) a w := by exact fun _ _ _ h => h) (hv : ∀ w', S w' → (execOp a.eval ⟨some N, op, ty, ps, af, gd⟩).run P w' = .ok (.value v) w')
    (ha : a.put (some N) v = a' := by simp only [Act.put, List.setIfInBounds_toArray, List.set_cons_zero, List.set_cons_succ, i64_w, i32_w]; rfl) : wpAnyLast P md ops Q S ds (fuel + 1) (pre n i) a w :=
  take_ _ hi rfl hc hQ (Or.inl ⟨hw, hv⟩) hS ha h
theorem os_ {n i j : Nat} {N : Tmp} {op : Op} {ty : TypeId} {ps : String} {af : Array Edge} {gd : Option (Nat × Bool)} {fuel : Nat} {a : Act} {w : World}
    (h : ∀ K : Act → World → Prop, Shut (∀ a' w', S w' → (S w' → wpAnyLast P md ops Q S ds fuel (pre n j) a' w') → K a' w') → if Region.wanted ⟨some N, op, ty, ps, af, gd⟩ (yielded ops a.tmps) = true then Oper.wp P ⟨some N, op, ty, ps, af, gd⟩ a w K Q else K (a.put (some N) undef) w) (hj : i + 1 = j := by simp only [Nat.reduceAdd]; rfl)
    (hi : ops[i]? = some ⟨some N, op, ty, ps, af, gd⟩ := by rfl) (hc : readyB md ops (pre n i) (pre n j) i = true := by exact one_of HT_.out (by kernel_rfl)) (hd : i ∉ ds := by decide) :
    wpAnyLast P md ops Q S ds (fuel + 1) (pre n i) a w := one_ _ hi rfl hc hd h
theorem startf_ {F : World → Prop} {id n : Nat} {a : Act} {w : World} (hF : F w) (hd : ∀ W, F W → F W.drew) (h : ∀ W, F W → wpAnyLast P .any ops Q F [] n (pre n 0) a W) (hm : P.follows .mixedOrders = true := by kernel_rfl) (hn : ops.size = n := by rfl) (hl : Array.replicate n false = pre n 0 := by rfl) :
    (Code.region id ops true).wp P Q a w := start_ _ hm hn hl (hd _ hF) (fun hs => h _ hs)
end
end Go.Proofs.YtbanogkoaplcdaaGreat.Auto
set_option linter.unusedVariables false
namespace Go.Proofs.YtbanogkoaplcdaaGreat.Lock
open Go.RowKit Go.Proofs.YtbanogkoaplcdaaGreatW.PrintWords Go.Proofs.YtbanogkoaplcdaaGreatW.PrintLast Go.Proofs.YtbanogkoaplcdaaGreatW.PrintMore Go.Proofs.YtbanogkoaplcdaaGreat.Short Go.Proofs.YtbanogkoaplcdaaGreat.Auto
section
variable {α β : Type} {A B : Option α} {r : α}
theorem ite_p {c : Prop} [Decidable c] (H : (if c then A else B) = some r) : (decide c = true ∧ A = some r) ∨ (decide c = false ∧ B = some r) := by
  by_cases h : c
  · exact .inl ⟨decide_eq_true h, by rwa [if_pos h] at H⟩
  · exact .inr ⟨decide_eq_false h, by rwa [if_neg h] at H⟩
theorem ite_lt {a b : Int} (H : (if a < b then A else B) = some r) : (decide (a < b) = true ∧ A = some r) ∨ (decide (a < b) = false ∧ B = some r) := ite_p H
theorem ite_le {a b : Int} (H : (if a ≤ b then A else B) = some r) : (decide (a ≤ b) = true ∧ A = some r) ∨ (decide (a ≤ b) = false ∧ B = some r) := ite_p H
theorem ite_b {b : Bool} (H : (if b = true then A else B) = some r) : (b = true ∧ A = some r) ∨ (b = false ∧ B = some r) := by
  cases b
  · exact .inr ⟨rfl, by simpa using H⟩
  · exact .inl ⟨rfl, by simpa using H⟩
theorem ite_e {γ : Type} [DecidableEq γ] [BEq γ] [LawfulBEq γ] {a b : γ} (H : (if a = b then A else B) = some r) : ((decide (a = b) = true ∧ (a == b) = true ∧ (a != b) = false) ∧ A = some r) ∨ ((decide (a = b) = false ∧ (a == b) = false ∧ (a != b) = true) ∧ B = some r) := by
  by_cases h : a = b
  · exact .inl ⟨⟨decide_eq_true h, by simp [h], by simp [h]⟩, by rwa [if_pos h] at H⟩
  · exact .inr ⟨⟨decide_eq_false h, by simp [h], by simp [h]⟩, by rwa [if_neg h] at H⟩
theorem ite_ei {a b : Int} (H : (if a = b then A else B) = some r) : ((decide (a = b) = true ∧ (a == b) = true ∧ (a != b) = false) ∧ A = some r) ∨ ((decide (a = b) = false ∧ (a == b) = false ∧ (a != b) = true) ∧ B = some r) := ite_e H
theorem ite_es {a b : List UInt8} (H : (if a = b then A else B) = some r) : ((decide (a = b) = true ∧ (a == b) = true ∧ (a != b) = false) ∧ A = some r) ∨ ((decide (a = b) = false ∧ (a == b) = false ∧ (a != b) = true) ∧ B = some r) := ite_e H
theorem ite_nb {a b : Bool} (H : (if (a != b) = true then A else B) = some r) : ((decide (a = b) = false ∧ (a == b) = false ∧ (a != b) = true) ∧ A = some r) ∨ ((decide (a = b) = true ∧ (a == b) = true ∧ (a != b) = false) ∧ B = some r) := by
  by_cases h : a = b
  · exact .inr ⟨⟨decide_eq_true h, by simp [h], by simp [h]⟩, by rwa [if_neg (by simp [h])] at H⟩
  · exact .inl ⟨⟨decide_eq_false h, by simp [h], by simp [h]⟩, by rwa [if_pos (by simp [h])] at H⟩
theorem ite_t {c : Prop} [Decidable c] (h : decide c = true) (H : (if c then A else B) = some r) : A = some r := by rwa [if_pos (of_decide_eq_true h)] at H
theorem bind_o {o : Option β} {f : β → Option α} (H : o.bind f = some r) : ∃ t, Aside0 (o = some t) ∧ f t = some r := by
  obtain ⟨t, h1, h2⟩ := Option.bind_eq_some_iff.mp H
  exact ⟨t, ⟨h1⟩, h2⟩
theorem none_o {p : Prop} (H : (none : Option α) = some r) : p := by cases H
end
theorem eqt {p : Prop} [Decidable p] (h : decide p = true) : p = True := eq_true (of_decide_eq_true h)
theorem cb3 {w w' : World} (hB : Below w.heap.size w w') {p0 p1 p2 : Addr} {v0 v1 v2 : Value} (h : w.cell? p0 = some v0 ∧ w.cell? p1 = some v1 ∧ w.cell? p2 = some v2) : w'.cell? p0 = some v0 ∧ w'.cell? p1 = some v1 ∧ w'.cell? p2 = some v2 := ⟨cb_ ⟨hB⟩ h.1, cb_ ⟨hB⟩ h.2.1, cb_ ⟨hB⟩ h.2.2⟩
theorem cb6 {w w' : World} (hB : Below w.heap.size w w') {p0 p1 p2 p3 p4 p5 : Addr} {v0 v1 v2 v3 v4 v5 : Value} (h : w.cell? p0 = some v0 ∧ w.cell? p1 = some v1 ∧ w.cell? p2 = some v2 ∧ w.cell? p3 = some v3 ∧ w.cell? p4 = some v4 ∧ w.cell? p5 = some v5) : w'.cell? p0 = some v0 ∧ w'.cell? p1 = some v1 ∧ w'.cell? p2 = some v2 ∧ w'.cell? p3 = some v3 ∧ w'.cell? p4 = some v4 ∧ w'.cell? p5 = some v5 := ⟨cb_ ⟨hB⟩ h.1, cb_ ⟨hB⟩ h.2.1, cb_ ⟨hB⟩ h.2.2.1, cb3 hB h.2.2.2⟩
theorem cb8 {w w' : World} (hB : Below w.heap.size w w') {p0 p1 p2 p3 p4 p5 p6 p7 : Addr} {v0 v1 v2 v3 v4 v5 v6 v7 : Value} (h : w.cell? p0 = some v0 ∧ w.cell? p1 = some v1 ∧ w.cell? p2 = some v2 ∧ w.cell? p3 = some v3 ∧ w.cell? p4 = some v4 ∧ w.cell? p5 = some v5 ∧ w.cell? p6 = some v6 ∧ w.cell? p7 = some v7) : w'.cell? p0 = some v0 ∧ w'.cell? p1 = some v1 ∧ w'.cell? p2 = some v2 ∧ w'.cell? p3 = some v3 ∧ w'.cell? p4 = some v4 ∧ w'.cell? p5 = some v5 ∧ w'.cell? p6 = some v6 ∧ w'.cell? p7 = some v7 := ⟨cb_ ⟨hB⟩ h.1, cb_ ⟨hB⟩ h.2.1, cb6 hB h.2.2⟩
theorem el_ {α : Type} {E : Addr → Prop} {ad : Addr} {A : Option α} {r : α} {i : Int} {n : Nat} (ha : 0 ≤ i → i < n → ∃ ad', some ad = some ad' ∧ E ad') (H : (if 0 ≤ i then (if i < (n : Int) then A else none) else none) = some r) : E ad ∧ (decide (0 ≤ i) = true ∧ decide (i < (n : Int)) = true ∧ (0 ≤ i) = True ∧ (i < (n : Int)) = True) ∧ A = some r := by
  by_cases h1 : 0 ≤ i
  · rw [if_pos h1] at H
    by_cases h2 : i < (n : Int)
    · rw [if_pos h2] at H
      obtain ⟨ad', e, h⟩ := ha h1 h2
      cases e
      exact ⟨h, ⟨decide_eq_true h1, decide_eq_true h2, eq_true h1, eq_true h2⟩, H⟩
    · rw [if_neg h2] at H; cases H
  · rw [if_neg h1] at H; cases H
theorem elo_ {α : Type} {E : Addr → Prop} {O : Option Addr} {A : Option α} {r : α} {i : Int} {n : Nat} (ha : 0 ≤ i → i < n → ∃ ad', O = some ad' ∧ E ad') (H : (if 0 ≤ i then (if i < (n : Int) then A else none) else none) = some r) : ∃ ad, O = some ad ∧ E ad ∧ (decide (0 ≤ i) = true ∧ decide (i < (n : Int)) = true ∧ (0 ≤ i) = True ∧ (i < (n : Int)) = True) ∧ A = some r := by
  by_cases h1 : 0 ≤ i
  · rw [if_pos h1] at H
    by_cases h2 : i < (n : Int)
    · rw [if_pos h2] at H
      obtain ⟨ad', e, h⟩ := ha h1 h2
      exact ⟨ad', e, h, ⟨decide_eq_true h1, decide_eq_true h2, eq_true h1, eq_true h2⟩, H⟩
    · rw [if_neg h2] at H; cases H
  · rw [if_neg h1] at H; cases H
theorem eli_ {α : Type} {k : IntKind} {w : World} {O : Option Addr} {l : List Int} {n : Nat} (hC : Kd.C (Kd.int k) w O n l) {A : Option α} {r : α} {i : Int} (H : (if 0 ≤ i then (if i < (n : Int) then A else none) else none) = some r) : ∃ ad, O = some ad ∧ w.cell? (ad.add i.toNat) = some (.int k (rd l i)) ∧ (decide (0 ≤ i) = true ∧ decide (i < (n : Int)) = true ∧ (0 ≤ i) = True ∧ (i < (n : Int)) = True) ∧ A = some r := elo_ (Kd.at_int hC i) H
theorem zA {P : Prop} (h : P := by exact Aside0.out (by with_reducible assumption)) : P := h
theorem zK {P : Prop} (h : P := by kernel_rfl) : P := h
theorem zB {P : Prop} (h : P := by repeat (first | (with_reducible first | exact HB.out | apply below_alloc | apply pw_below_drewN | apply below_drew1 | refine below_set ?_ GE.out | refine below_set ?_ GE2.out) | exact HB.out)) : P := h
theorem zR {P : Prop} (h : P := by first | rfl | (simp; done) | (simp [*]; done)) : P := h
theorem zT {P : Prop} (h : P := by first | rfl | (simp [errW_none, errW_some] <;> rfl) | (simp [*, errW_none, errW_some] <;> rfl)) : P := h
theorem zM {P : Prop} (h : P := by have := HK1.out; omega) : P := h
theorem zMj {P : Prop} (h : P := by have := HK1.out; have := HJ.out; omega) : P := h
theorem zM2 {P : Prop} (h : P := by have := HJ.out; have := HK2.out; omega) : P := h
theorem zM3 {P : Prop} (h : P := by have := HJ.out; have := HK2.out; have := HK3.out; omega) : P := h
theorem zKf {P : Prop} (h : P := by (with_reducible repeat (first | apply blk_far (hp := NB.out) | refine blk_drewN ?_ _ | refine blk_drew ?_ | refine blk_alloc ?_ _)); with_reducible exact BK.out) : P := h
theorem zKf2 {P : Prop} (h : P := by (with_reducible repeat (first | apply blk_far (hp := NB'.out) | refine blk_drewN ?_ _ | refine blk_drew ?_ | refine blk_alloc ?_ _)); with_reducible exact BK2.out) : P := h
theorem ite_n {α : Type} {A : Option α} {r : α} {a b : Nat} (H : (if a < b then A else none) = some r) : Aside0 (a < b) ∧ A = some r := by
  by_cases h : a < b
  · exact ⟨⟨h⟩, by rwa [if_pos h] at H⟩
  · rw [if_neg h] at H; cases H
theorem ap_n {n m b : Nat} (h : Aside0 (n < m)) (hb : m * b ≤ 140737488355328 := by decide) : (n + 1) * b ≤ 140737488355328 := Nat.le_trans (Nat.mul_le_mul_right b h.out) hb
theorem bind_s {α β : Type} {v : β} {f : β → Option α} {r : α} (H : (some v).bind f = some r) : f v = some r := H
theorem farR3 {α : Type} {d : Kd α} {e base g : Nat} {ok : Nat → Prop} {W : World} {v u0 u1 u2 : Value} {xs : List α} (h : d.R e W base (fun k => ok k ∧ k ≠ g) v xs) : d.R e (((W.setCell ⟨g, 0, none⟩ u0).setCell ⟨g, 1, none⟩ u1).setCell ⟨g, 2, none⟩ u2) base (fun k => ok k ∧ k ≠ g) v xs := (Kd.R_far (p := ⟨g, 2, none⟩) (Kd.R_far (p := ⟨g, 1, none⟩) (Kd.R_far (p := ⟨g, 0, none⟩) h (fun _ hk => hk.2) _) (fun _ hk => hk.2) _) (fun _ hk => hk.2) _)
theorem farR6 {α : Type} {d : Kd α} {e base g : Nat} {ok : Nat → Prop} {W : World} {v u0 u1 u2 u3 u4 u5 : Value} {xs : List α} (h : d.R e W base (fun k => ok k ∧ k ≠ g) v xs) : d.R e ((((((W.setCell ⟨g, 0, none⟩ u0).setCell ⟨g, 1, none⟩ u1).setCell ⟨g, 2, none⟩ u2).setCell ⟨g, 3, none⟩ u3).setCell ⟨g, 4, none⟩ u4).setCell ⟨g, 5, none⟩ u5) base (fun k => ok k ∧ k ≠ g) v xs := (Kd.R_far (p := ⟨g, 5, none⟩) (Kd.R_far (p := ⟨g, 4, none⟩) (Kd.R_far (p := ⟨g, 3, none⟩) (Kd.R_far (p := ⟨g, 2, none⟩) (Kd.R_far (p := ⟨g, 1, none⟩) (Kd.R_far (p := ⟨g, 0, none⟩) h (fun _ hk => hk.2) _) (fun _ hk => hk.2) _) (fun _ hk => hk.2) _) (fun _ hk => hk.2) _) (fun _ hk => hk.2) _) (fun _ hk => hk.2) _)
theorem zO {P : Prop} (h : P := by (with_reducible repeat (first | apply Kd.R_alloc | apply Kd.R_drewN | apply Kd.R_drew)); with_reducible first | exact HO.out | exact Kd.R_mono HO.out (fun _ _ => trivial) | exact Kd.R_mono HO.out (fun k hk => Nat.ne_of_gt (Nat.lt_of_lt_of_le (blk_lt (by assumption)) hk.2)) | exact Kd.R_mono HO.out (fun _ hk => hk.1) | exact Kd.R_mono (farR6 HO.out) (fun _ hk => hk.1) | exact Kd.R_mono (farR8 HO.out) (fun _ hk => hk.1) | exact Kd.R_mono (farR3 HO.out) (fun _ hk => hk.1)) : P := h
theorem zF {P : Prop} (h : P := by first | exact (fun _ _ => trivial) | exact (fun k hk => Kd.freshB zKf k hk)) : P := h
theorem zG {P : Prop} (h : P := by first | exact Kd.R_away HO.out (fun _ hk => hk) | exact Kd.R_ne HO.out BK.out (by decide)) : P := h
theorem zPb {P : Prop} (h : P := by rintro e w' ⟨rfl, hb⟩; refine ⟨rfl, ?_⟩; first | exact below_step hHeld hb | exact ⟨blk_below hHeld.1 hb, below_step hHeld.2 hb⟩ | exact ⟨blk_below hHeld.1 hb, blk_below hHeld.2.1 hb, below_step hHeld.2.2 hb⟩ | exact ⟨blk_below hHeld.1 hb, Kd.R_below hHeld.2.1 hb, below_step hHeld.2.2 hb⟩) : P := h
theorem zPd {P : Prop} (h : P := by rintro e w' ⟨rfl, ⟨nd, rfl⟩⟩; refine ⟨rfl, ?_⟩; first | exact pw_below_drewN hHeld nd | exact ⟨blk_drewN hHeld.1 nd, pw_below_drewN hHeld.2 nd⟩ | exact ⟨blk_drewN hHeld.1 nd, blk_drewN hHeld.2.1 nd, pw_below_drewN hHeld.2.2 nd⟩ | exact ⟨blk_drewN hHeld.1 nd, Kd.R_drewN hHeld.2.1 nd, pw_below_drewN hHeld.2.2 nd⟩) : P := h
theorem zCr {P : Prop} (h : P := by exact Kd.C_below (Aside0.out (by with_reducible assumption)) (by first | exact hHeld | exact hHeld.2 | exact hHeld.2.2)) : P := h
theorem zC {P : Prop} (h : P := by exact Kd.C_below (Aside0.out (by with_reducible assumption)) zB) : P := h
theorem zL {P : Prop} (h : P := by exact Aside0.out (by with_reducible assumption)) : P := h
section
variable {P : Program} {ops : Array Oper} {Q : Exit → Act → World → Prop} {md : Region.Mode} {S : World → Prop} {ds : List Nat}
theorem oc_ {n i j : Nat} {N : Tmp} {op : Op} {ty : TypeId} {ps : String} {af : Array Edge} {gd : Option (Nat × Bool)} {fuel : Nat} {a a' : Act} {w : World} {f : FuncId} {fn : Func} {as : Array Operand} {ts : Array TypeId} {args : Array Value} {v : Value} {H : Prop} {Post : Ending → World → Prop}
    (hf : P.funcs[f]? = some fn) (hcall : H → Calls P f args w Post) (hpost : ∀ e w', Post e w' → e = .returned v ∧ S w') (h : ∀ w', S w' → wpAnyLast P md ops Q S ds fuel (pre n j) a' w') (hj : i + 1 = j := by simp only [Nat.reduceAdd]; rfl) (hi : ops[i]? = some ⟨some N, op, ty, ps, af, gd⟩ := by rfl)
    (hop : op = .call { callee := .value (.func f), args := as, argTypes := ts } := by rfl) (hargs : as.map a.eval = args := by simp only [List.map_toArray, List.map_cons, List.map_nil]; rfl) (hw : Region.wanted ⟨some N, op, ty, ps, af, gd⟩ (yielded ops a.tmps) = true := by rfl) (hc : readyB md ops (pre n i) (pre n j) i = true := by exact one_of HT_.out (by kernel_rfl)) (hd : i ∉ ds := by decide)
    (hname : (fn.name == "runtime.NumGoroutine") = false := by kernel_rfl) (hb : fn.body.isSome = true := by rfl) (hA : H := by exact Aside0.out (by with_reducible assumption))
    (ha : a.put (some N) v = a' := by simp only [Act.put, List.setIfInBounds_toArray, List.set_cons_zero, List.set_cons_succ, i64_w, i32_w]; rfl) : wpAnyLast P md ops Q S ds (fuel + 1) (pre n i) a w := by
  refine os_ (fun K hK => goes_ hf hname hb args hw rfl hop hargs ((hcall hA).mono ?_)) hj hi hc hd
  intro e w' hp
  obtain ⟨rfl, hs⟩ := hpost e w' hp
  refine ⟨_, rfl, hK.out _ _ hs (fun hs2 => ?_)⟩
  subst ha
  exact h _ hs2
theorem startk_ {id n g : Nat} {o : Obj} {a : Act} {w W : World} (h : W.heap[g]? = some o ∧ Below w.heap.size w W) (hs : ∀ W', W'.heap[g]? = some o ∧ Below w.heap.size w W' → wpAnyLast P .any ops Q (fun W' => W'.heap[g]? = some o ∧ Below w.heap.size w W') [] n (pre n 0) a W') (hm : P.follows .mixedOrders = true := by kernel_rfl) (hn : ops.size = n := by rfl) (hl : Array.replicate n false = pre n 0 := by rfl) : (Code.region id ops true).wp P Q a W := startf_ (F := fun W' => W'.heap[g]? = some o ∧ Below w.heap.size w W') h (fun W h => ⟨blk_drew h.1, below_drew1 h.2⟩) hs hm hn hl
theorem startk2_ {id n g g' : Nat} {o o' : Obj} {a : Act} {w W : World} (h : W.heap[g]? = some o ∧ W.heap[g']? = some o' ∧ Below w.heap.size w W) (hs : ∀ W', W'.heap[g]? = some o ∧ W'.heap[g']? = some o' ∧ Below w.heap.size w W' → wpAnyLast P .any ops Q (fun W' => W'.heap[g]? = some o ∧ W'.heap[g']? = some o' ∧ Below w.heap.size w W') [] n (pre n 0) a W') (hm : P.follows .mixedOrders = true := by kernel_rfl) (hn : ops.size = n := by rfl) (hl : Array.replicate n false = pre n 0 := by rfl) : (Code.region id ops true).wp P Q a W := startf_ (F := fun W' => W'.heap[g]? = some o ∧ W'.heap[g']? = some o' ∧ Below w.heap.size w W') h (fun W h => ⟨blk_drew h.1, blk_drew h.2.1, below_drew1 h.2.2⟩) hs hm hn hl
theorem startr_ {id n g : Nat} {o : Obj} {a : Act} {w W : World} {α : Type} {d : Kd α} {e base : Nat} {ok : Nat → Prop} {v : Value} {xs : List α} (h : W.heap[g]? = some o ∧ d.R e W base ok v xs ∧ Below w.heap.size w W) (hs : ∀ W', W'.heap[g]? = some o ∧ d.R e W' base ok v xs ∧ Below w.heap.size w W' → wpAnyLast P .any ops Q (fun W' => W'.heap[g]? = some o ∧ d.R e W' base ok v xs ∧ Below w.heap.size w W') [] n (pre n 0) a W') (hm : P.follows .mixedOrders = true := by kernel_rfl) (hn : ops.size = n := by rfl) (hl : Array.replicate n false = pre n 0 := by rfl) : (Code.region id ops true).wp P Q a W := startf_ (F := fun W' => W'.heap[g]? = some o ∧ d.R e W' base ok v xs ∧ Below w.heap.size w W') h (fun W h => ⟨blk_drew h.1, Kd.R_drew h.2.1, below_drew1 h.2.2⟩) hs hm hn hl
theorem start0_ {id n : Nat} {a : Act} {w W : World} (h : Below w.heap.size w W) (hs : ∀ W', Below w.heap.size w W' → wpAnyLast P .any ops Q (fun W' => Below w.heap.size w W') [] n (pre n 0) a W') (hm : P.follows .mixedOrders = true := by kernel_rfl) (hn : ops.size = n := by rfl) (hl : Array.replicate n false = pre n 0 := by rfl) : (Code.region id ops true).wp P Q a W := startf_ (F := fun W' => Below w.heap.size w W') h (fun W h => below_drew1 h) hs hm hn hl
theorem startb3_ {id n g : Nat} {t : TypeId} {a : Act} {w W : World} {v0 v1 v2 u0 u1 u2 : Value} (h : W.heap[g]? = some (.cells #[v0, v1, v2] t (0, 0))) (HB : Below w.heap.size w W) (hg : w.heap.size ≤ g) (hs : ∀ W', W'.heap[g]? = some (.cells #[u0, u1, u2] t (0, 0)) ∧ Below w.heap.size w W' → wpAnyLast P .any ops Q (fun W' => W'.heap[g]? = some (.cells #[u0, u1, u2] t (0, 0)) ∧ Below w.heap.size w W') [] n (pre n 0) a W') (hm : P.follows .mixedOrders = true := by kernel_rfl) (hn : ops.size = n := by rfl) (hl : Array.replicate n false = pre n 0 := by rfl) : (Code.region id ops true).wp P Q a (((W.setCell ⟨g, 0, none⟩ u0).setCell ⟨g, 1, none⟩ u1).setCell ⟨g, 2, none⟩ u2) := startf_ (F := fun W' => W'.heap[g]? = some (.cells #[u0, u1, u2] t (0, 0)) ∧ Below w.heap.size w W') ⟨bpa3 h, (below_set (below_set (below_set HB hg) hg) hg)⟩ (fun W h => ⟨blk_drew h.1, below_drew1 h.2⟩) hs hm hn hl
theorem startb6_ {id n g : Nat} {t : TypeId} {a : Act} {w W : World} {v0 v1 v2 v3 v4 v5 u0 u1 u2 u3 u4 u5 : Value} (h : W.heap[g]? = some (.cells #[v0, v1, v2, v3, v4, v5] t (0, 0))) (HB : Below w.heap.size w W) (hg : w.heap.size ≤ g) (hs : ∀ W', W'.heap[g]? = some (.cells #[u0, u1, u2, u3, u4, u5] t (0, 0)) ∧ Below w.heap.size w W' → wpAnyLast P .any ops Q (fun W' => W'.heap[g]? = some (.cells #[u0, u1, u2, u3, u4, u5] t (0, 0)) ∧ Below w.heap.size w W') [] n (pre n 0) a W') (hm : P.follows .mixedOrders = true := by kernel_rfl) (hn : ops.size = n := by rfl) (hl : Array.replicate n false = pre n 0 := by rfl) : (Code.region id ops true).wp P Q a ((((((W.setCell ⟨g, 0, none⟩ u0).setCell ⟨g, 1, none⟩ u1).setCell ⟨g, 2, none⟩ u2).setCell ⟨g, 3, none⟩ u3).setCell ⟨g, 4, none⟩ u4).setCell ⟨g, 5, none⟩ u5) := startf_ (F := fun W' => W'.heap[g]? = some (.cells #[u0, u1, u2, u3, u4, u5] t (0, 0)) ∧ Below w.heap.size w W') ⟨bpa6 h, (below_set (below_set (below_set (below_set (below_set (below_set HB hg) hg) hg) hg) hg) hg)⟩ (fun W h => ⟨blk_drew h.1, below_drew1 h.2⟩) hs hm hn hl
theorem startb8_ {id n g : Nat} {t : TypeId} {a : Act} {w W : World} {v0 v1 v2 v3 v4 v5 v6 v7 u0 u1 u2 u3 u4 u5 u6 u7 : Value} (h : W.heap[g]? = some (.cells #[v0, v1, v2, v3, v4, v5, v6, v7] t (0, 0))) (HB : Below w.heap.size w W) (hg : w.heap.size ≤ g) (hs : ∀ W', W'.heap[g]? = some (.cells #[u0, u1, u2, u3, u4, u5, u6, u7] t (0, 0)) ∧ Below w.heap.size w W' → wpAnyLast P .any ops Q (fun W' => W'.heap[g]? = some (.cells #[u0, u1, u2, u3, u4, u5, u6, u7] t (0, 0)) ∧ Below w.heap.size w W') [] n (pre n 0) a W') (hm : P.follows .mixedOrders = true := by kernel_rfl) (hn : ops.size = n := by rfl) (hl : Array.replicate n false = pre n 0 := by rfl) : (Code.region id ops true).wp P Q a ((((((((W.setCell ⟨g, 0, none⟩ u0).setCell ⟨g, 1, none⟩ u1).setCell ⟨g, 2, none⟩ u2).setCell ⟨g, 3, none⟩ u3).setCell ⟨g, 4, none⟩ u4).setCell ⟨g, 5, none⟩ u5).setCell ⟨g, 6, none⟩ u6).setCell ⟨g, 7, none⟩ u7) := startf_ (F := fun W' => W'.heap[g]? = some (.cells #[u0, u1, u2, u3, u4, u5, u6, u7] t (0, 0)) ∧ Below w.heap.size w W') ⟨bpa8 h, (below_set (below_set (below_set (below_set (below_set (below_set (below_set (below_set HB hg) hg) hg) hg) hg) hg) hg) hg)⟩ (fun W h => ⟨blk_drew h.1, below_drew1 h.2⟩) hs hm hn hl
end
section
variable {P : Program} {ops : Array Oper} {rest : List Oper} {o : Oper} {a : Act} {Q : Exit → Act → World → Prop} {W : World}
theorem bx_ {N : Tmp} {cs : Array Value} {t : TypeId} (h : ∀ g, g = W.heap.size → ∀ w1, w1.heap[g]? = some (.cells cs t (0, 0)) → Below W.heap.size W w1 → wpList P ops Q rest (a.put o.dst (.pointer (some ⟨g, 0, none⟩))) w1) (hd : o.dst = some N := by rfl) (hgd : o.guard = none := by rfl)
    (hrun : (execOp a.eval o).run P W = .ok (.value (.pointer (some ⟨W.heap.size, 0, none⟩))) (W.alloc (.cells cs t (0, 0))) := by go_simp; rfl) : wpList P ops Q (o :: rest) a W := box_event hgd hd hrun h
theorem rl_ {N : Tmp} {α : Type} (d : Kd α) (e : Nat) {w0 : World} (HB : Below w0.heap.size w0 W) (h : ∀ v1 w1, d.R e w1 w0.heap.size (fun k => True ∧ W.heap.size ≤ k) v1 [] → Below W.heap.size W w1 → wpList P ops Q rest (a.put o.dst v1) w1) (hd : o.dst = some N := by rfl) (hgd : o.guard = none := by rfl)
    (hrun : (execOp a.eval o).run P W = .ok (.value (.slice (some ⟨W.heap.size, 0, none⟩) 0 0)) (W.alloc (.cells #[] e)) := by first | (go_simp; done) | (go_simp; rfl)) : wpList P ops Q (o :: rest) a W :=
  Kd.R_lit d W.heap.size e hgd hd (w0 := W) (xs := []) (inner := []) (ok := fun k => True ∧ W.heap.size ≤ k) (okp := fun _ => True ∧ False) hrun (Reps.none _ _) (fun _ hk => hk.2.elim) ⟨trivial, Nat.le_refl _⟩ (Below.refl _ _) (Nat.le_refl _) (by simp) (fun v1 w1 h1 h2 _ _ => h v1 w1 (Kd.R_lower h1 HB.size) h2)
theorem apk_ {α : Type} {d : Kd α} {w0 : World} {base bytes : Nat} {t e : TypeId} {z v : Value} {s x : Operand} {xs : List α} {p : α} {cs : List Value} {ok : Nat → Prop} (hp : d.M W base (fun _ => False) p cs) (ht : P.underlying t = some (.slice e)) (hinfo : (P.info? e).map (fun i => (i.zero, i.size, i.bytes)) = some (some z, d.sz, bytes)) (HO : d.R e W base ok v xs) (hfresh : ∀ k, W.heap.size ≤ k → ok k) (HB : Below base w0 W) (hbase : base ≤ W.heap.size) (hl : (xs.length + 1) * bytes ≤ 140737488355328)
    (h : ∀ v1 w1, d.R e w1 base ok v1 (xs ++ [p]) → Below base w0 w1 → W.grownBy w1 v.ownBlock → wpList P ops Q rest (a.put o.dst v1) w1) (hgd : o.guard = none := by rfl) (ho : o.op = .call { callee := .builtin .append, args := #[s, x], argTypes := #[t, t] } := by rfl) (hz : z.cells.size = d.sz := by rfl) (hs0 : 0 < d.sz := by decide) (hb0 : 0 < bytes := by decide)
    (hs : a.eval s = v := by rfl) (hx : a.eval x = .slice (some ⟨W.heap.size, 0, none⟩) 1 1 := by first | (go_simp; done) | (go_simp; rfl)) : wpList P ops Q (o :: rest) a (W.alloc (.cells cs.toArray e)) :=
  Kd.R_append d (w0 := w0) base hgd s x t e z bytes ho ht hinfo hz hs0 hb0 v xs p cs ok (fun _ => False) hs hx hp (fun _ hk => hk.elim) hfresh HO HB hbase hl (fun v1 w1 h1 h2 h3 _ => h v1 w1 h1 h2 h3)
end
end Go.Proofs.YtbanogkoaplcdaaGreat.Lock
set_option linter.unusedVariables false
namespace Go.Proofs.YtbanogkoaplcdaaGreat.Reg9
open Go.RowKit Go.Proofs.YtbanogkoaplcdaaGreatW.PrintWords Go.Proofs.YtbanogkoaplcdaaGreatW.PrintLast Go.Proofs.YtbanogkoaplcdaaGreatW.PrintMore Go.Proofs.YtbanogkoaplcdaaGreat.Short Go.Proofs.YtbanogkoaplcdaaGreat.Auto Go.Proofs.YtbanogkoaplcdaaGreat.Lock
def TB : Bool × List (List Nat × List Nat) := (true, [([], []), ([], []), ([], []), ([1, 2], [1, 2]), ([0, 3], [0, 3]), ([], []), ([5], [5]), ([4, 6, 4], [4, 6]), ([7, 7, 0, 1, 2, 3, 4, 5, 6, 7], [7])])
theorem putne {a : Act} {s t : Nat} {u : Value} (h : s ≠ t) : (a.put (some s) u).tmps[t]? = a.tmps[t]? := by simp [Act.put, h]
theorem puteq {a : Act} {t : Nat} {u : Value} (h : t < a.tmps.size) : (a.put (some t) u).tmps[t]? = some u := by simp [Act.put, h]
theorem putsz {a : Act} {s : Nat} {u : Value} : (a.put (some s) u).tmps.size = a.tmps.size := by simp [Act.put]
theorem putc {a : Act} {s t : Nat} {u v : Value} (h : s ≠ t) : (a.put (some s) u).put (some t) v = (a.put (some t) v).put (some s) u := by simp [Act.put, Array.setIfInBounds_comm _ _ h]
theorem rows1 {α : Type} {Rr : α → List Value → Prop} {w : World} {g t : Nat} {p : α} {cs : List Value} (hR : Rr p cs) (h : w.heap[g]? = some (.cells cs.toArray t (0, 0))) : ReadsRow Rr cs.length w (some ⟨g, 0, none⟩) 1 [p] := by
  refine ⟨rfl, by decide, fun _ => ⟨_, rfl, fun j q hq => ?_⟩⟩
  cases j with
  | succ n => simp at hq
  | zero =>
    simp at hq
    subst hq
    refine ⟨cs, rfl, hR, fun i u hu => ?_⟩
    rw [Nat.zero_mul, Nat.zero_add, add_plain, blk_cell h i]
    simpa using hu
theorem lm4 {α : Type} {l : List α} {i : Int} {m b : Nat} (hi : i ≤ (l.length : Int)) (h : Aside0 (([] : List α).length + (l.take i.toNat).length < m)) (hb : m * b ≤ 140737488355328 := by decide) : i.toNat * b ≤ 140737488355328 := by
  have h2 := h.out
  rw [List.length_nil, Nat.zero_add, List.length_take, Nat.min_eq_left (by omega)] at h2
  exact Nat.le_trans (Nat.mul_le_mul_right b (Nat.le_of_lt h2)) hb
theorem lm7 {α : Type} {l ys : List α} {i : Int} {x : α} {m b : Nat} (hi : i ≤ (l.length : Int)) (h : Aside0 ((([] : List α) ++ l.take i.toNat).length + [x].length < m)) (hb : m * b ≤ 140737488355328 := by decide) : (i.toNat + 1) * b ≤ 140737488355328 := by
  have h2 := h.out
  rw [List.nil_append, List.length_take, Nat.min_eq_left (by omega), List.length_singleton] at h2
  exact Nat.le_trans (Nat.mul_le_mul_right b (Nat.le_of_lt h2)) hb
theorem R_setT {α : Type} {d : Kd α} {e base g t : Nat} {ok : Nat → Prop} {w : World} {v : Value} {xs : List α} {cells : Array Value} (h : d.R e w base ok v xs) (hb : w.heap[g]? = some (.cells cells t (0, 0))) (ht : t ∉ e :: d.E) {p : Addr} (hp : p.block = g) (u : Value) : d.R e (w.setCell p u) base ok v xs :=
  Kd.R_mono (Kd.R_far (Kd.R_bound h) (fun k hk hkg => by
    obtain ⟨_, _, _, q, hq, cs, hc⟩ := hk
    rw [hkg, hp, hb] at hc
    injection hc with hc
    injection hc with _ hc
    exact ht (hc ▸ hq)) u) (fun _ hk => hk.1)
theorem bind_d {α β : Type} {l : List β} {n : Nat} {f : List β → Option α} {r : α} (H : (some (l.drop n)).bind f = some r) : ∃ y, Aside0 (l.drop n = y) ∧ f y = some r := ⟨_, ⟨rfl⟩, H⟩
theorem bind_d1 {α β : Type} {l : List β} {f : List β → Option α} {r : α} (H : (some (l.drop 1)).bind f = some r) : ∃ y, Aside0 (l.drop 1 = y) ∧ f y = some r := ⟨_, ⟨rfl⟩, H⟩
theorem ite_ng {α : Type} {A B : Option α} {r : α} {n : Nat} (H : (if (n : Int) > 0 then A else B) = some r) : ((decide (0 < (n : Int)) = true ∧ decide (0 < n) = true ∧ (0 < n) = True) ∧ A = some r) ∨ ((decide (0 < (n : Int)) = false ∧ decide (0 < n) = false) ∧ B = some r) := by
  by_cases h : (n : Int) > 0
  · exact .inl ⟨⟨decide_eq_true h, decide_eq_true (by omega), eq_true (by omega)⟩, by rwa [if_pos h] at H⟩
  · exact .inr ⟨⟨decide_eq_false h, decide_eq_false (by omega)⟩, by rwa [if_neg h] at H⟩
theorem lma {n n' m b : Nat} (h : Aside0 (n + n' < m)) (hb : m * b ≤ 140737488355328 := by decide) : (n + n') * b ≤ 140737488355328 := Nat.le_trans (Nat.mul_le_mul_right b (Nat.le_of_lt h.out)) hb
theorem cutf_ {P : Program} {α : Type} {d : Kd α} {TS T bytes c : Nat} {z : Value} {w : World} {A : Option Addr} {l : List α} {i : Int} {kh : IntKind} (ht : P.underlying TS = some (.slice T)) (hinfo : (P.info? T).map (fun i => (i.zero, i.size, i.bytes)) = some (some z, d.sz, bytes)) (HR : Kd.C d w A l.length l) (hc : l.length ≤ c) (h0 : 0 ≤ i) (hi : i ≤ (l.length : Int)) :
    ∃ A' c', (∀ W : World, (Instr.slice TS (.slice A l.length c) (some (.int kh i)) none none).run P W = .ok (.slice A' (l.drop i.toNat).length c') W) ∧ Aside0 (Kd.C d w A' (l.drop i.toNat).length (l.drop i.toNat)) ∧ Aside0 ((l.drop i.toNat).length ≤ c') := by
  obtain ⟨i0, hi0, hzz⟩ := Option.map_eq_some_iff.1 hinfo
  simp only [Prod.mk.injEq] at hzz
  have hcut := cut_from (P := P) TS T kh ht hi0 d.sz hzz.2.1 A l.length c i h0 hi
  have hr := Kd.C_drop (m := i.toNat) (c := c) HR (by omega) hc
  have hy : (l.drop i.toNat).length = l.length - i.toNat := List.length_drop
  refine ⟨_, c - i.toNat, fun W => ?_, ⟨hr⟩, ⟨?_⟩⟩
  · rw [hcut W, hy]
  · rw [hy]; exact Nat.sub_le_sub_right hc _
section
variable {P : Program} {ops : Array Oper} {Q : Exit → Act → World → Prop}
set_option maxHeartbeats 8000000 in
theorem reg9_ {α : Type} {d : Kd α} {id TS T b tl ti tb out g bytes c : Nat} {ty0 ty1 ty2 ty3 ty4 ty5 ty6 ty7 ty8 : TypeId} {p0 p1 p2 p3 p4 p5 p6 p7 p8 : String} {f0 f1 f2 f3 f4 f5 f6 f7 f8 : Array Edge}
    {a : Act} {w0 w : World} {A : Option Addr} {l : List α} {i : Int} {x : α} {cs : List Value} {z : Value} {kh : IntKind}
    (hM : ∀ W base ok, d.M W base ok x cs) (hKM : ∀ W W' base ok y ds, d.K W y ds → d.M W' base ok y ds)
    (ht : P.underlying TS = some (.slice T)) (hinfo : (P.info? T).map (fun i => (i.zero, i.size, i.bytes)) = some (some z, d.sz, bytes))
    (HR : Kd.C d w0 A l.length l) (hlc : l.length ≤ c) (h0i : 0 ≤ i) (hin : i ≤ (l.length : Int)) (HB : Below w0.heap.size w0 w) (BK : w.heap[g]? = some (.cells cs.toArray T (0, 0)))
    (hl4 : i.toNat * bytes ≤ 140737488355328) (hl7 : (i.toNat + 1) * bytes ≤ 140737488355328)
    (hQ : ∀ v0 v4 v6 v7 w', d.R T w' w0.heap.size (fun _ => True) v7 ([] ++ l.take i.toNat ++ [x]) → Below w0.heap.size w0 w' → Q .normal (((((((((a.put (some (b + 1)) (.slice A l.length c)).put (some (b + 2)) (.int kh i)).put (some (b + 3)) (.slice A i.toNat c)).put (some (b + 5)) (.agg cs.toArray)).put (some b) v0).put (some (b + 4)) v4).put (some (b + 6)) v6).put (some (b + 7)) v7).put (some out) v7) w')
    (h0 : ops[0]? = some ⟨some b, .buildSlice TS 0 #[], ty0, p0, f0, none⟩ := by rfl) (h1 : ops[1]? = some ⟨some (b + 1), .move (.tmp tl), ty1, p1, f1, none⟩ := by rfl) (h2 : ops[2]? = some ⟨some (b + 2), .move (.tmp ti), ty2, p2, f2, none⟩ := by rfl)
    (h3 : ops[3]? = some ⟨some (b + 3), .slice TS (.tmp (b + 1)) none (some (.tmp (b + 2))) none, ty3, p3, f3, none⟩ := by rfl) (h4 : ops[4]? = some ⟨some (b + 4), .call { callee := .builtin .append, args := #[.tmp b, .tmp (b + 3)], argTypes := #[TS, TS] }, ty4, p4, f4, none⟩ := by rfl)
    (h5 : ops[5]? = some ⟨some (b + 5), .load T (.tmp tb), ty5, p5, f5, none⟩ := by rfl) (h6 : ops[6]? = some ⟨some (b + 6), .buildSlice TS 1 #[(0, .tmp (b + 5))], ty6, p6, f6, none⟩ := by rfl)
    (h7 : ops[7]? = some ⟨some (b + 7), .call { callee := .builtin .append, args := #[.tmp (b + 4), .tmp (b + 6)], argTypes := #[TS, TS] }, ty7, p7, f7, none⟩ := by rfl) (h8 : ops[8]? = some ⟨some out, .assign (.tmp (b + 7)), ty8, p8, f8, none⟩ := by rfl)
    (el : a.tmps[tl]? = some (.slice A l.length c) := by rfl) (ei : a.tmps[ti]? = some (.int kh i) := by rfl) (eb : a.tmps[tb]? = some (.pointer (some ⟨g, 0, none⟩)) := by rfl) (hsz : Nat.ble (b + 8) a.tmps.size = true := by rfl) (hlt : (Nat.ble (tl + 1) b && Nat.ble (ti + 1) b && Nat.ble (tb + 1) b) = true := by rfl)
    (hz : z.cells.size = d.sz := by rfl) (hcs : cs.length = d.sz := by rfl) (hs0 : 0 < d.sz := by decide) (hb0 : 0 < bytes := by decide)
    (hr0 : ∀ W : World, (Instr.buildSlice TS 0 #[]).run P W = .ok (.slice (some ⟨W.heap.size, 0, none⟩) 0 0) (W.alloc (.cells #[] T)) := by intro W; first | (go_simp; done) | (go_simp; rfl))
    (hr5 : ∀ W : World, W.heap[g]? = some (.cells cs.toArray T (0, 0)) → (Instr.loadAt T (.pointer (some ⟨g, 0, none⟩))).run P W = .ok (.agg cs.toArray) W := by intro W h; (first | have hc_ := bc3 h | have hc_ := bc6 h | have hc_ := bc8 h); clear h; first | (go_simp; done) | (go_simp; rfl))
    (hr6 : ∀ W : World, (Instr.buildSlice TS 1 #[(0, .agg cs.toArray)]).run P W = .ok (.slice (some ⟨W.heap.size, 0, none⟩) 1 1) (W.alloc (.cells cs.toArray T)) := by intro W; first | (go_simp; done) | (go_simp; rfl))
    (hQp : ∀ (N : Tmp) v c a w, Q (.panic c) (a.put (some N) v) w → Q (.panic c) a w := by exact fun _ _ _ _ _ h => h) (hm : P.follows .mixedOrders = true := by kernel_rfl) (hn : ops.size = 9 := by rfl) (hT : rtab .any ops = TB := by kernel_rfl) : (Code.region id ops true).wp P Q a w := by
  have hs1 := Nat.le_of_ble_eq_true hsz
  simp only [Bool.and_eq_true] at hlt
  obtain ⟨⟨t1, t2⟩, t3⟩ := hlt
  replace t1 := Nat.le_of_ble_eq_true t1; replace t2 := Nat.le_of_ble_eq_true t2; replace t3 := Nat.le_of_ble_eq_true t3
  obtain ⟨S, hS⟩ : ∃ S : World → Prop, S = fun W => W.heap[g]? = some (.cells cs.toArray T (0, 0)) ∧ Below w0.heap.size w0 W := ⟨_, rfl⟩
  refine start_ (S := S) (ds := [7]) (n := 9) (mb 9 0) hm hn (by rfl) (by rw [hS]; exact ⟨blk_drew BK, below_drew1 HB⟩) (fun hs => ?_)
  generalize w.drew = W at hs ⊢
  clear BK HB w
  refine pure_ (i := 1) (v := .slice A l.length c) (mb 9 2) h1 rfl (any_of hT (by kernel_rfl)) (fun _ _ _ h => hQp _ _ _ _ _ h) (Or.inl ⟨by rfl, fun w' => by rw [← ev_ el]; rfl⟩) rfl ?_
  refine pure_ (i := 2) (v := .int kh i) (mb 9 6) h2 rfl (any_of hT (by kernel_rfl)) (fun _ _ _ h => hQp _ _ _ _ _ h) (Or.inl ⟨by rfl, fun w' => by rw [← ev_ ((putne (u := .slice A l.length c) (s := b + 1) (t := ti) (by omega)).trans ei)]; rfl⟩) rfl ?_
  obtain ⟨i0, hi0, hzz⟩ := Option.map_eq_some_iff.1 hinfo
  refine pure_ (i := 3) (v := .slice A i.toNat c) (mb 9 14) h3 rfl (any_of hT (by kernel_rfl)) (fun _ _ _ h => hQp _ _ _ _ _ h) (Or.inl ⟨by rfl, fun w' => ?_⟩) rfl ?_
  · have e1 : ((a.put (some (b + 1)) (.slice A l.length c)).put (some (b + 2)) (.int kh i)).eval (.tmp (b + 1)) = .slice A l.length c := ev_ ((putne (by omega)).trans (puteq (by omega)))
    have e2 : ((a.put (some (b + 1)) (.slice A l.length c)).put (some (b + 2)) (.int kh i)).eval (.tmp (b + 2)) = .int kh i := ev_ (puteq (by rw [putsz]; omega))
    have h := cut_to TS T kh ht hi0 A l.length c i h0i hin hlc w'
    simp only [execOp, Option.map_some, Option.map_none, e1, e2]
    have h2 : (Instr.sliceAt TS (.slice A l.length c) none (some (.int kh i)) none).run P w' = _ := (by simp [Instr.sliceAt, run_underlying ht] : _ = (Instr.slice TS (.slice A l.length c) none (some (.int kh i)) none).run P w').trans h
    rw [Sem.run_bind, h2]; rfl
  refine take_ (i := 5) (v := .agg cs.toArray) (mb 9 46) h5 rfl (take_of hT (by kernel_rfl)) (fun _ _ _ h => hQp _ _ _ _ _ h) (Or.inl ⟨by rfl, fun w' hw => ?_⟩) hs rfl ?_
  · have e1 : (((a.put (some (b + 1)) (.slice A l.length c)).put (some (b + 2)) (.int kh i)).put (some (b + 3)) (.slice A i.toNat c)).eval (.tmp tb) = .pointer (some ⟨g, 0, none⟩) := ev_ ((putne (by omega)).trans ((putne (by omega)).trans ((putne (by omega)).trans eb)))
    have h := hr5 w' (by rw [hS] at hw; exact hw.1)
    simp only [execOp, e1]
    rw [Sem.run_bind, h]; rfl
  obtain ⟨a1, ha1⟩ : ∃ a1, a1 = (((a.put (some (b + 1)) (.slice A l.length c)).put (some (b + 2)) (.int kh i)).put (some (b + 3)) (.slice A i.toNat c)).put (some (b + 5)) (.agg cs.toArray) := ⟨_, rfl⟩
  have z1 : a1.tmps.size = a.tmps.size := by simp only [ha1, putsz]
  have q3 : a1.tmps[b + 3]? = some (.slice A i.toNat c) := by rw [ha1]; exact (putne (by omega)).trans (puteq (by simp only [putsz]; omega))
  have q5 : a1.tmps[b + 5]? = some (.agg cs.toArray) := by rw [ha1]; exact puteq (by simp only [putsz]; omega)
  rw [← ha1] at hQ ⊢
  clear ha1
  have hlen : (l.take i.toNat).length = i.toNat := by rw [List.length_take]; omega
  have hC := Kd.C_take (m := i.toNat) HR (by omega)
  rw [hlen] at hC
  have s0 : ∀ (K : Act → World → Prop) (a2 : Act) (W : World), Below w0.heap.size w0 W → (∀ v1 w1, d.R T w1 w0.heap.size (fun k => True ∧ W.heap.size ≤ k) v1 [] → Below W.heap.size W w1 → K (a2.put (some b) v1) w1) → if Region.wanted ⟨some b, .buildSlice TS 0 #[], ty0, p0, f0, none⟩ (yielded ops a2.tmps) = true then Oper.wp P ⟨some b, .buildSlice TS 0 #[], ty0, p0, f0, none⟩ a2 W K Q else K (a2.put (some b) undef) W := by
    intro K a2 W hb hk
    refine Kd.R_lit_step d (w0 := W) W.heap.size T rfl (N := b) rfl (xs := []) (inner := []) (ok := fun k => True ∧ W.heap.size ≤ k) (okp := fun _ => True ∧ False) ?_ (Reps.none _ _) (fun _ hk => hk.2.elim) ⟨trivial, Nat.le_refl _⟩ (Below.refl _ _) (Nat.le_refl _) (by simp) (fun v1 w1 ho hb1 _ _ => hk v1 w1 (Kd.R_lower ho hb.size) hb1)
    simp only [execOp]
    rw [Sem.run_bind, List.map_toArray, List.map_nil, hr0]; rfl
  have s6 : ∀ (K : Act → World → Prop) (a2 : Act) (W : World), a2.tmps[b + 5]? = some (.agg cs.toArray) → (∀ g6 w1, g6 = W.heap.size → w1.heap[g6]? = some (.cells cs.toArray T (0, 0)) → Below W.heap.size W w1 → K (a2.put (some (b + 6)) (.slice (some ⟨g6, 0, none⟩) 1 1)) w1) → if Region.wanted ⟨some (b + 6), .buildSlice TS 1 #[(0, .tmp (b + 5))], ty6, p6, f6, none⟩ (yielded ops a2.tmps) = true then Oper.wp P ⟨some (b + 6), .buildSlice TS 1 #[(0, .tmp (b + 5))], ty6, p6, f6, none⟩ a2 W K Q else K (a2.put (some (b + 6)) undef) W := by
    intro K a2 W h5 hk
    refine value_ rfl rfl (w1 := W.alloc (.cells cs.toArray T)) (v := .slice (some ⟨W.heap.size, 0, none⟩) 1 1) ?_ (hk _ _ rfl (blk_new W _) (below_alloc (Below.refl _ _) _))
    simp only [execOp, List.map_toArray, List.map_cons, List.map_nil, ev_ h5]
    rw [Sem.run_bind, hr6]; rfl
  have s4 : ∀ (K : Act → World → Prop) (a2 : Act) (W : World) (v0 : Value) (ok : Nat → Prop), a2.tmps[b]? = some v0 → a2.tmps[b + 3]? = some (.slice A i.toNat c) → d.R T W w0.heap.size ok v0 [] → (∀ k, W.heap.size ≤ k → ok k) → Below w0.heap.size w0 W → (∀ v1 w1, d.R T w1 w0.heap.size ok v1 (l.take i.toNat) → Below w0.heap.size w0 w1 → W.grownBy w1 v0.ownBlock → K (a2.put (some (b + 4)) v1) w1) → if Region.wanted ⟨some (b + 4), .call { callee := .builtin .append, args := #[.tmp b, .tmp (b + 3)], argTypes := #[TS, TS] }, ty4, p4, f4, none⟩ (yielded ops a2.tmps) = true then Oper.wp P ⟨some (b + 4), .call { callee := .builtin .append, args := #[.tmp b, .tmp (b + 3)], argTypes := #[TS, TS] }, ty4, p4, f4, none⟩ a2 W K Q else K (a2.put (some (b + 4)) undef) W := by
    intro K a2 W v0 ok e0 e3 ho hf hb hk
    exact Kd.R_append_rows_step d (w0 := w0) w0.heap.size (by rfl) (.tmp b) (.tmp (b + 3)) TS T z bytes rfl ht hinfo hz hs0 hb0 v0 [] (l.take i.toNat) _ _ _ ok (fun _ => False) (ev_ e0) (ev_ e3) ho (Kd.C_below hC hb) (fun y ds h => hKM _ _ _ _ y ds h) (fun _ h => h.elim) hf hb hb.size (by simpa using hl4) (fun v1 w1 h1 h2 h3 _ => hk v1 w1 (by simpa using h1) h2 h3)
  have s7 : ∀ (K : Act → World → Prop) (a2 : Act) (W : World) (v4 : Value) (g6 : Nat) (ok : Nat → Prop), a2.tmps[b + 4]? = some v4 → a2.tmps[b + 6]? = some (.slice (some ⟨g6, 0, none⟩) 1 1) → d.R T W w0.heap.size ok v4 (l.take i.toNat) → W.heap[g6]? = some (.cells cs.toArray T (0, 0)) → Below w0.heap.size w0 W → (∀ v1 w1, d.R T w1 w0.heap.size (fun _ => True) v1 (l.take i.toNat ++ [x]) → Below w0.heap.size w0 w1 → K (a2.put (some (b + 7)) v1) w1) → if Region.wanted ⟨some (b + 7), .call { callee := .builtin .append, args := #[.tmp (b + 4), .tmp (b + 6)], argTypes := #[TS, TS] }, ty7, p7, f7, none⟩ (yielded ops a2.tmps) = true then Oper.wp P ⟨some (b + 7), .call { callee := .builtin .append, args := #[.tmp (b + 4), .tmp (b + 6)], argTypes := #[TS, TS] }, ty7, p7, f7, none⟩ a2 W K Q else K (a2.put (some (b + 7)) undef) W := by
    intro K a2 W v4 g6 ok e4 e6 ho hg hb hk
    have hrow := rows1 (Rr := fun y ds => y = x ∧ ds = cs) (p := x) ⟨rfl, rfl⟩ hg
    rw [hcs] at hrow
    exact Kd.R_append_rows_step d (w0 := w0) w0.heap.size (by rfl) (.tmp (b + 4)) (.tmp (b + 6)) TS T z bytes rfl ht hinfo hz hs0 hb0 v4 (l.take i.toNat) [x] _ _ _ (fun _ => True) (fun _ => False) (ev_ e4) (ev_ e6) (Kd.R_mono ho (fun _ _ => trivial)) hrow (fun y ds h => by rw [h.1, h.2]; exact hM _ _ _) (fun _ h => h.elim) (fun _ _ => trivial) hb hb.size (by rw [hlen]; exact hl7) (fun v1 w1 h1 h2 _ _ => hk v1 w1 h1 h2)
  have fin : ∀ (v0 v4 v6 v7 : Value) (w' : World), d.R T w' w0.heap.size (fun _ => True) v7 (l.take i.toNat ++ [x]) → Below w0.heap.size w0 w' → wpAnyLast P .any ops Q S [7] 1 (mb 9 255) ((((a1.put (some b) v0).put (some (b + 4)) v4).put (some (b + 6)) v6).put (some (b + 7)) v7) w' := by
    intro v0 v4 v6 v7 w' h1 h2
    refine pure_ (i := 8) (v := v7) (mb 9 511) h8 rfl (any_of hT (by kernel_rfl)) (fun _ _ _ h => hQp _ _ _ _ _ h) (Or.inl ⟨by rfl, fun w' => ?_⟩) rfl (done_ (done_of hT (by kernel_rfl)) (hQ _ _ _ _ _ h1 h2))
    have e := ev_ (puteq (t := b + 7) (u := v7) (a := ((a1.put (some b) v0).put (some (b + 4)) v4).put (some (b + 6)) v6) (by simp only [putsz]; omega))
    simp only [execOp, e]
    rfl
  have hbS : ∀ W : World, S W → Below w0.heap.size w0 W := fun W h => by rw [hS] at h; exact h.2
  have stS : ∀ W W1 : World, S W → Below W.heap.size W W1 → S W1 := fun W W1 h hb => by rw [hS] at h ⊢; exact ⟨blk_below h.1 hb, below_step h.2 hb⟩
  have gb : ∀ W : World, S W → W.heap[g]? = some (.cells cs.toArray T (0, 0)) := fun W h => by rw [hS] at h; exact h.1
  have mkS : ∀ W : World, W.heap[g]? = some (.cells cs.toArray T (0, 0)) → Below w0.heap.size w0 W → S W := fun W h1 h2 => by rw [hS]; exact ⟨h1, h2⟩
  clear hS
  have end7 : ∀ (v0 v4 : Value) (g6 : Nat) (ok : Nat → Prop) (W : World), d.R T W w0.heap.size ok v4 (l.take i.toNat) → W.heap[g6]? = some (.cells cs.toArray T (0, 0)) → Below w0.heap.size w0 W → wpAnyLast P .any ops Q S [7] 2 (mb 9 127) (((a1.put (some b) v0).put (some (b + 4)) v4).put (some (b + 6)) (.slice (some ⟨g6, 0, none⟩) 1 1)) W := by
    intro v0 v4 g6 ok W ho hg hb
    refine last_ (i := 7) (mb 9 255) h7 rfl (one_of hT (by kernel_rfl)) (by decide) (fun K hK => ?_)
    exact s7 K _ W v4 g6 ok ((putne (by omega)).trans (puteq (by simp only [putsz]; omega))) (puteq (by simp only [putsz]; omega)) ho hg hb (fun v1 w1 h1 h2 => hK.out _ _ (fin _ _ _ _ _ h1 h2))
  have mid : ∀ (v0 : Value) (g6 : Nat) (W : World), d.R T W w0.heap.size (fun k => k ≠ g ∧ k ≠ g6) v0 [] → W.heap[g6]? = some (.cells cs.toArray T (0, 0)) → S W → wpAnyLast P .any ops Q S [7] 3 (mb 9 111) ((a1.put (some b) v0).put (some (b + 6)) (.slice (some ⟨g6, 0, none⟩) 1 1)) W := by
    intro v0 g6 W ho hg hs
    refine one_ (i := 4) (mb 9 127) h4 rfl (one_of hT (by kernel_rfl)) (by decide) (fun K hK => ?_)
    refine s4 K _ W v0 _ ((putne (by omega)).trans (puteq (by omega))) ((putne (by omega)).trans ((putne (by omega)).trans q3)) ho (fun k hk => ⟨Kd.freshB (gb W hs) k hk, Kd.freshB hg k hk⟩) (hbS W hs) (fun v4 w1 h1 h2 h3 => hK.out _ _ (mkS _ (blk_grown (gb W hs) h3 (Kd.R_away ho (fun _ hk => hk.1))) h2) (fun _ => ?_))
    rw [putc (by omega)]
    exact end7 _ _ _ _ _ h1 (blk_grown hg h3 (Kd.R_away ho (fun _ hk => hk.2))) h2
  refine two_ (i := 0) (j := 6) (mb 9 47) (mb 9 110) h0 h6 rfl rfl (two_of hT (by kernel_rfl)) (by decide) (by decide) (fun K hK => ?_) (fun K hK => ?_)
  · refine s0 K _ W (hbS W hs) (fun v0 w1 ho hb => hK.out _ _ (stS _ _ hs hb) (fun hs1 => ?_))
    have ho1 := Kd.R_mono ho (ok' := fun k => k ≠ g) (fun k hk => Kd.freshB (gb W hs) k hk.2)
    refine two_ (i := 4) (j := 6) (mb 9 63) (mb 9 111) h4 h6 rfl rfl (two_of hT (by kernel_rfl)) (by decide) (by decide) (fun K hK => ?_) (fun K hK => ?_)
    · refine s4 K _ w1 v0 _ (puteq (by omega)) ((putne (by omega)).trans q3) ho1 (fun k hk => Kd.freshB (gb w1 hs1) k hk) (hbS w1 hs1) (fun v4 w2 h1 h2 h3 => hK.out _ _ (mkS _ (blk_grown (gb w1 hs1) h3 (Kd.R_away ho1 (fun _ hk => hk))) h2) (fun hs2 => ?_))
      refine one_ (i := 6) (mb 9 127) h6 rfl (one_of hT (by kernel_rfl)) (by decide) (fun K hK => ?_)
      exact s6 K _ w2 ((putne (by omega)).trans ((putne (by omega)).trans q5)) (fun g6 w3 e6 hg hb => hK.out _ _ (stS _ _ hs2 hb) (fun _ => end7 _ _ _ _ _ (Kd.R_below h1 hb) hg (below_step h2 hb)))
    · exact s6 K _ w1 ((putne (by omega)).trans q5) (fun g6 w2 e6 hg hb2 => hK.out _ _ (stS _ _ hs1 hb2) (fun hs2 => mid _ _ _ (Kd.R_below (Kd.R_elderB ho1 g6 (Nat.le_of_eq e6.symm)) hb2) hg hs2))
  · refine s6 K _ W q5 (fun g6 w1 e6 hg hb => hK.out _ _ (stS _ _ hs hb) (fun hs1 => ?_))
    refine one_ (i := 0) (mb 9 111) h0 rfl (one_of hT (by kernel_rfl)) (by decide) (fun K hK => ?_)
    refine s0 K _ w1 (hbS w1 hs1) (fun v0 w2 ho hb2 => hK.out _ _ (stS _ _ hs1 hb2) (fun hs2 => ?_))
    rw [putc (by omega)]
    exact mid _ _ _ (Kd.R_mono ho (fun k hk => ⟨Kd.freshB (gb w1 hs1) k hk.2, Kd.freshB hg k hk.2⟩)) (blk_below hg hb2) hs2
end
section
variable {P : Program} {ops : Array Oper} {rest : List Oper} {o : Oper} {a : Act} {Q : Exit → Act → World → Prop} {W : World}
theorem apr_ {α : Type} {d : Kd α} {w0 : World} {base bytes m c : Nat} {t e : TypeId} {z v : Value} {s x : Operand} {xs ys : List α} {A : Option Addr} (hKM : ∀ W W' base ok y ds, d.K W y ds → d.M W' base ok y ds) (ht : P.underlying t = some (.slice e)) (hinfo : (P.info? e).map (fun i => (i.zero, i.size, i.bytes)) = some (some z, d.sz, bytes)) (HO : d.R e W base (fun _ => True) v xs) (HR : Kd.C d W A m ys) (HB : Below base w0 W) (hbase : base ≤ W.heap.size) (hl : (xs.length + m) * bytes ≤ 140737488355328)
    (h : ∀ v1 w1, d.R e w1 base (fun _ => True) v1 (xs ++ ys) → Below base w0 w1 → wpList P ops Q rest (a.put o.dst v1) w1) (hgd : o.guard = none := by rfl) (ho : o.op = .call { callee := .builtin .append, args := #[s, x], argTypes := #[t, t] } := by rfl) (hs : a.eval s = v := by rfl) (hx : a.eval x = .slice A m c := by first | rfl | (rw [List.length_drop]; rfl)) (hz : z.cells.size = d.sz := by rfl) (hs0 : 0 < d.sz := by decide) (hb0 : 0 < bytes := by decide) : wpList P ops Q (o :: rest) a W :=
  Kd.R_append_rows d (w0 := w0) base hgd s x t e z bytes ho ht hinfo hz hs0 hb0 v xs ys A m c (fun _ => True) (fun _ => False) hs hx HO HR (fun y ds h => hKM _ _ _ _ y ds h) (fun _ h => h.elim) (fun _ _ => trivial) HB hbase hl (fun v1 w1 h1 h2 _ _ => h v1 w1 h1 h2)
end
end Go.Proofs.YtbanogkoaplcdaaGreat.Reg9
set_option linter.unusedVariables false
namespace Go.Proofs.YtbanogkoaplcdaaGreat.Reg10
open Go.RowKit Go.Proofs.YtbanogkoaplcdaaGreatW.PrintWords Go.Proofs.YtbanogkoaplcdaaGreatW.PrintLast Go.Proofs.YtbanogkoaplcdaaGreatW.PrintMore Go.Proofs.YtbanogkoaplcdaaGreat.Short Go.Proofs.YtbanogkoaplcdaaGreat.Auto Go.Proofs.YtbanogkoaplcdaaGreat.Lock Go.Proofs.YtbanogkoaplcdaaGreat.Reg9
theorem store_run {α : Type} {d : Kd α} {P : Program} {e g n cap base j : Nat} {t : TypeId} {ok : Nat → Prop} {W : World} {xs : List α} {u : Value} {seg : List Value} {i : Int} (HO : d.R e W base ok (.slice (some ⟨g, 0, none⟩) n cap) xs) (h0 : 0 ≤ i) (hi : i < n) (hu : u.cells.toList = seg) (ht : (P.info? t).map (·.size) = some seg.length) (h1 : ∀ q ∈ seg, q.oneCell' = true) (hj : j + seg.length ≤ d.sz) :
    (Instr.storeAt t (.pointer (some ⟨g, i.toNat * d.sz + j, none⟩)) u).run P W = .ok () (W.setCells g (i.toNat * d.sz + j) seg) := by
  have hnx : n = xs.length := (Kd.R_reads' HO).1
  obtain ⟨_, inner, hown, hr⟩ := HO
  have hil : i.toNat < n := by omega
  rcases hown.2 with ⟨hv, _⟩ | ⟨g', cap', cur, hv, hb, hh, hnc, hcm, hcs, _⟩
  · cases hv
  injection hv with ha _ hc
  injection ha with ha
  injection ha with hg'
  subst hg'; subst hc
  refine run_store_run t u seg hh hu ht ?_ h1
  have h2 : i.toNat * d.sz + d.sz ≤ n * d.sz := by rw [← Nat.succ_mul]; exact Nat.mul_le_mul_right _ hil
  have h3 : n * d.sz ≤ cap * d.sz := Nat.mul_le_mul_right _ (by omega)
  omega
section
variable {P : Program} {ops : Array Oper} {Q : Exit → Act → World → Prop} {md : Region.Mode} {S : World → Prop} {ds : List Nat}
theorem startd_ {F : World → Prop} {id n : Nat} {a : Act} {w : World} (ds : List Nat) (hF : F w) (hd : ∀ W, F W → F W.drew) (h : ∀ W, F W → wpAnyLast P .any ops Q F ds n (pre n 0) a W) (hm : P.follows .mixedOrders = true := by kernel_rfl) (hn : ops.size = n := by rfl) (hl : Array.replicate n false = pre n 0 := by rfl) :
    (Code.region id ops true).wp P Q a w := start_ _ hm hn hl (hd _ hF) (fun hs => h _ hs)
theorem ss_ {n i j : Nat} {op : Op} {ty : TypeId} {ps : String} {af : Array Edge} {fuel : Nat} {a : Act} {w w1 : World} (hrun : (execOp a.eval ⟨none, op, ty, ps, af, none⟩).run P w = .ok .skip w1) (h : wpAnyLast P md ops Q S ds fuel (pre n j) a w1) (hd : i ∈ ds := by decide) (hj : i + 1 = j := by simp only [Nat.reduceAdd]; rfl)
    (hi : ops[i]? = some ⟨none, op, ty, ps, af, none⟩ := by rfl) (hc : readyB md ops (pre n i) (pre n j) i = true := by exact one_of HT_.out (by kernel_rfl)) : wpAnyLast P md ops Q S ds (fuel + 1) (pre n i) a w :=
  last_ _ hi rfl hc hd (fun K hK => skip_ rfl rfl hrun (hK.out _ _ h))
theorem stk_ {α : Type} {d : Kd α} {n i j : Nat} {p x : Operand} {t ty : TypeId} {ps : String} {af : Array Edge} {fuel : Nat} {a : Act} {W : World} {e base g nn cap o' k : Nat} {ix : Int} {xs : List α} {x' : α} {u : Value} {seg c : List Value} {ok : Nat → Prop} (HO : d.R e W base ok (.slice (some ⟨g, 0, none⟩) nn cap) xs)
    (hcc : ∀ j u, c[j]? = some u → W.cell? ⟨g, ix.toNat * d.sz + j, none⟩ = some u) (h0 : 0 ≤ ix) (hi' : ix < nn) (hM : d.M W base (fun _ => False) x' (c.take k ++ seg ++ c.drop (k + seg.length))) (haddr : a.eval p = .pointer (some ⟨g, o', none⟩)) (hoff : o' = ix.toNat * d.sz + k) (hx : a.eval x = u) (hu : u.cells.toList = seg)
    (ht : (P.info? t).map (·.size) = some seg.length) (h1 : ∀ q ∈ seg, q.oneCell' = true) (hcl : c.length = d.sz) (hk : k + seg.length ≤ d.sz) (h : ∀ w1, d.R e w1 base ok (.slice (some ⟨g, 0, none⟩) nn cap) (xs.set ix.toNat x') → W.grownBy w1 (some g) → wpAnyLast P md ops Q S ds fuel (pre n j) a w1)
    (hd : i ∈ ds := by decide) (hj : i + 1 = j := by simp only [Nat.reduceAdd]; rfl) (hi : ops[i]? = some ⟨none, .store t p x, ty, ps, af, none⟩ := by rfl) (hc : readyB md ops (pre n i) (pre n j) i = true := by exact one_of HT_.out (by kernel_rfl)) : wpAnyLast P md ops Q S ds (fuel + 1) (pre n i) a W := by
  subst hoff
  obtain ⟨hrow, hg⟩ := Kd.R_seg HO ix h0 hi' hcl hcc hk hM (fun _ hk => hk.elim)
  refine ss_ (w1 := W.setCells g (ix.toNat * d.sz + k) seg) ?_ (h _ hrow hg) hd hj hi hc
  have hrun := store_run (P := P) HO h0 hi' hu ht h1 hk
  simp only [execOp, haddr, hx, Sem.run_bind, hrun]
  rfl
end
section
variable {α : Type} {d : Kd α} {e base : Nat} {ok : Nat → Prop} {w w1 : World} {v : Value} {xs : List α}
theorem R_but {g t : Nat} {cells : Array Value} {row : Option Nat} (h : d.R e w base ok v xs) (hk : KeepBut w w1 g row) (hb : w.heap[g]? = some (.cells cells t (0, 0))) (ht : t ∉ e :: d.E) (hr : ∀ k, row = some k → ∃ cells t', w.heap[k]? = some (.cells cells t' (0, 0)) ∧ t' ∉ e :: d.E) : d.R e w1 base ok v xs := by
  refine Kd.R_mono (Kd.R_step (Kd.R_bound h) (fun k hk1 hlt => ?_)) (fun _ hk => hk.1)
  obtain ⟨_, _, _, q, hq, cs, hc⟩ := hk1
  refine hk.2 k hlt (fun he => ?_) (fun he => ?_)
  · subst he; rw [hb] at hc; injection hc with hc; injection hc with _ hc; exact ht (hc ▸ hq)
  · obtain ⟨cs', t', h1, h2⟩ := hr k he.symm
    rw [h1] at hc; injection hc with hc; injection hc with _ hc; exact h2 (hc ▸ hq)
theorem rowT {β : Type} {d' : Kd β} {e' base' : Nat} {ok' : Nat → Prop} {u : Value} {ys : List β} (h : d'.R e' w base' ok' u ys) {L : List Nat} (ht : e' ∉ L) : ∀ k, u.ownBlock = some k → ∃ cells t', w.heap[k]? = some (.cells cells t' (0, 0)) ∧ t' ∉ L := fun k hk => by
  obtain ⟨cs, hc⟩ := Kd.R_typed h k hk
  exact ⟨cs, e', hc, ht⟩
theorem noRow {L : List Nat} : ∀ k, (none : Option Nat) = some k → ∃ cells t', w.heap[k]? = some (.cells cells t' (0, 0)) ∧ t' ∉ L := fun _ h => by cases h
theorem below_grow {base b : Nat} {w W W2 : World} (h : Below base w W) (hg : W.grownBy W2 (some b)) (hb : base ≤ b) (hs : base ≤ W.heap.size) : Below base w W2 :=
  h.trans ⟨hg.os, hg.tape, hg.output, hg.size, fun k hk => hg.block k (by omega) (fun he => by injection he with he; omega)⟩
theorem but_row {g : Nat} {row : Option Nat} (h : KeepBut w w1 g none) : KeepBut w w1 g row := ⟨h.1, fun i hi hg _ => h.2 i hi hg (by simp)⟩
end
section
variable {P : Program} {ops : Array Oper} {Q : Exit → Act → World → Prop} {md : Region.Mode} {S : World → Prop} {ds : List Nat}
theorem oq_ {n i j : Nat} {N : Tmp} {op : Op} {ty : TypeId} {ps : String} {af : Array Edge} {gd : Option (Nat × Bool)} {fuel : Nat} {a : Act} {w : World} {f : FuncId} {fn : Func} {as : Array Operand} {ts : Array TypeId} {args : Array Value} {Post : Ending → World → Prop} (hf : P.funcs[f]? = some fn) (hcall : Calls P f args w Post)
    (hpost : ∀ e w', Post e w' → ∃ v, e = .returned v ∧ S w' ∧ (S w' → wpAnyLast P md ops Q S ds fuel (pre n j) (a.put (some N) v) w')) (hj : i + 1 = j := by simp only [Nat.reduceAdd]; rfl) (hi : ops[i]? = some ⟨some N, op, ty, ps, af, gd⟩ := by rfl) (hc : readyB md ops (pre n i) (pre n j) i = true := by exact one_of HT_.out (by kernel_rfl)) (hd : i ∉ ds := by decide)
    (hop : op = .call { callee := .value (.func f), args := as, argTypes := ts } := by rfl) (hargs : as.map a.eval = args := by simp only [List.map_toArray, List.map_cons, List.map_nil]; rfl) (hw : Region.wanted ⟨some N, op, ty, ps, af, gd⟩ (yielded ops a.tmps) = true := by rfl) (hname : (fn.name == "runtime.NumGoroutine") = false := by kernel_rfl) (hb : fn.body.isSome = true := by rfl) : wpAnyLast P md ops Q S ds (fuel + 1) (pre n i) a w := by
  refine os_ (fun K hK => goes_ hf hname hb args hw rfl hop hargs (hcall.mono ?_)) hj hi hc hd
  intro e w' hp
  obtain ⟨v, rfl, hs, hh⟩ := hpost e w' hp
  exact ⟨v, rfl, hK.out _ _ hs hh⟩
end
theorem setCells_all {g : Nat} {t : TypeId} {zs : Array Value} {seg : List Value} {W : World} (hb : W.heap[g]? = some (.cells zs t (0, 0))) (hz : zs.size = seg.length) : (W.setCells g 0 seg).heap[g]? = some (.cells seg.toArray t (0, 0)) := by
  obtain ⟨cur, h1, h2, h3⟩ := setCells_row seg 0 W zs hb (by omega)
  have : cur = seg.toArray := by
    apply Array.toList_inj.1
    rw [h3]
    simp [hz.symm ▸ (List.drop_eq_nil_of_le (by simp) : zs.toList.drop zs.size = [])]
  rw [h1, this]
theorem setCells_below {g : Nat} {seg : List Value} {W w1 : World} (h : Below W.heap.size W w1) (hg : W.heap.size ≤ g) : Below W.heap.size W (w1.setCells g 0 seg) := by
  obtain ⟨h1, h2, h3, h4⟩ := setCells_same g seg 0 w1
  exact h.trans ⟨h1, h2, h3, by omega, fun k hk => setCells_far seg 0 k (by omega)⟩
section
variable {P : Program} {ops : Array Oper} {rest : List Oper} {oA oS : Oper} {a : Act} {Q : Exit → Act → World → Prop} {W : World}
theorem alst_ {N : Tmp} {t : TypeId} {zs : Array Value} {u : Value} {seg : List Value} {x : Operand} (hu : u.cells.toList = seg) (hdS : oS.dst = none) (hd : oA.dst = some N) (hgA : oA.guard = none) (hgS : oS.guard = none) (hoS : oS.op = .store t (.tmp N) x)
    (hrunA : (execOp a.eval oA).run P W = .ok (.value (.pointer (some ⟨W.heap.size, 0, none⟩))) (W.alloc (.cells zs t (0, 0)))) (ht : (P.info? t).map (·.size) = some seg.length) (hz : zs.size = seg.length)
    (hp : ∀ g, (a.put oA.dst (.pointer (some ⟨g, 0, none⟩))).eval (.tmp N) = .pointer (some ⟨g, 0, none⟩)) (hx : ∀ g, (a.put oA.dst (.pointer (some ⟨g, 0, none⟩))).eval x = u) (h1 : ∀ q ∈ seg, q.oneCell' = true)
    (h : ∀ g w1, g = W.heap.size → w1.heap[g]? = some (.cells seg.toArray t (0, 0)) → Below W.heap.size W w1 → wpList P ops Q rest (a.put oA.dst (.pointer (some ⟨g, 0, none⟩))) w1) : wpList P ops Q (oA :: oS :: rest) a W := by
  refine box_event hgA hd hrunA (fun g hg w1 hb hB => ?_)
  refine wpList_plain hgS fun K hK => ?_
  have hrun := run_store_run (P := P) (o := 0) t u seg hb hu ht (by omega) h1
  unfold Oper.wp execOp
  simp only [hoS, hp, hx, Sem.run_bind, Sem.run_pure, Result.andThen_ok, hrun]
  show K (((a.put oA.dst (.pointer (some ⟨g, 0, none⟩))).put oS.dst undef)) _
  rw [hdS]
  exact hK _ _ (h g _ hg (setCells_all hb hz) (setCells_below hB (Nat.le_of_eq hg.symm)))
end
theorem R_tow4 {α : Type} {d : Kd α} {e base g t : Nat} {ok : Nat → Prop} {W : World} {v u0 u1 u2 u3 : Value} {xs : List α} {cs : Array Value} (h : d.R e W base ok v xs) (hb : W.heap[g]? = some (.cells cs t (0, 0))) (ht : t ∉ e :: d.E) : d.R e ((((W.setCell ⟨g, 0, none⟩ u0).setCell ⟨g, 1, none⟩ u1).setCell ⟨g, 2, none⟩ u2).setCell ⟨g, 3, none⟩ u3) base ok v xs := by
  refine Kd.R_mono (Kd.R_step (Kd.R_bound h) (fun k hk hlt => ?_)) (fun _ hk => hk.1)
  have hkg : k ≠ g := by
    obtain ⟨_, _, _, q, hq, cs', hc⟩ := hk
    intro he; subst he; rw [hb] at hc; injection hc with hc; injection hc with _ hc; exact ht (hc ▸ hq)
  exact (Below.heap_setCell _ _ _ k hkg).trans ((Below.heap_setCell _ _ _ k hkg).trans ((Below.heap_setCell _ _ _ k hkg).trans (Below.heap_setCell _ _ _ k hkg)))
theorem drawn_below {W w' : World} (h : Drawn0 W w') : Below W.heap.size W w' := by
  obtain ⟨nd, rfl⟩ := h
  exact pw_below_drewN (Below.refl _ _) nd
theorem one4 {q v0 v1 v2 v3 : Value} (h : v0.oneCell' = true ∧ v1.oneCell' = true ∧ v2.oneCell' = true ∧ v3.oneCell' = true) (hq : q ∈ [v0, v1, v2, v3]) : q.oneCell' = true := by
  simp only [List.mem_cons, List.not_mem_nil, or_false] at hq
  rcases hq with rfl | rfl | rfl | rfl
  · exact h.1
  · exact h.2.1
  · exact h.2.2.1
  · exact h.2.2.2
section
variable {P : Program} {ops : Array Oper} {rest : List Oper} {oA oS : Oper} {a : Act} {Q : Exit → Act → World → Prop} {W : World}
theorem al4_ {N : Tmp} {t : TypeId} {zs : Array Value} {v0 v1 v2 v3 : Value} {x : Operand} (h1 : v0.oneCell' = true ∧ v1.oneCell' = true ∧ v2.oneCell' = true ∧ v3.oneCell' = true)
    (h : ∀ g w1, g = W.heap.size → w1.heap[g]? = some (.cells #[v0, v1, v2, v3] t (0, 0)) → Below W.heap.size W w1 → wpList P ops Q rest (a.put oA.dst (.pointer (some ⟨g, 0, none⟩))) w1) (hoS : oS.op = .store t (.tmp N) x := by rfl) (hdS : oS.dst = none := by rfl) (hd : oA.dst = some N := by rfl) (hgA : oA.guard = none := by rfl) (hgS : oS.guard = none := by rfl)
    (hrunA : (execOp a.eval oA).run P W = .ok (.value (.pointer (some ⟨W.heap.size, 0, none⟩))) (W.alloc (.cells zs t (0, 0))) := by go_simp; rfl) (hz : zs.size = 4 := by rfl) (ht : (P.info? t).map (·.size) = some 4 := by rfl)
    (hp : ∀ g, (a.put oA.dst (.pointer (some ⟨g, 0, none⟩))).eval (.tmp N) = .pointer (some ⟨g, 0, none⟩) := by intro g; rfl) (hx : ∀ g, (a.put oA.dst (.pointer (some ⟨g, 0, none⟩))).eval x = .agg #[v0, v1, v2, v3] := by intro g; rfl) : wpList P ops Q (oA :: oS :: rest) a W :=
  alst_ (u := .agg #[v0, v1, v2, v3]) (seg := [v0, v1, v2, v3]) rfl hdS hd hgA hgS hoS hrunA ht hz hp hx (fun q hq => one4 h1 hq) h
end
section
variable {P : Program} {ops : Array Oper} {rest : List Oper} {o : Oper} {a : Act} {Q : Exit → Act → World → Prop} {W : World}
theorem gate_no (hd : o.dst = none) (h : wpList P ops Q (o :: rest) a W) : wpList P ops Q (o :: rest) a W := h
theorem stp_ {α : Type} {d : Kd α} {p x : Operand} {t : TypeId} {e base g nn cap o' k : Nat} {ix : Int} {xs : List α} {x' : α} {u : Value} {seg c : List Value} {ok : Nat → Prop} (HO : d.R e W base ok (.slice (some ⟨g, 0, none⟩) nn cap) xs)
    (hcc : ∀ j u, c[j]? = some u → W.cell? ⟨g, ix.toNat * d.sz + j, none⟩ = some u) (h0 : 0 ≤ ix) (hi' : ix < nn) (hM : d.M W base (fun _ => False) x' (c.take k ++ seg ++ c.drop (k + seg.length))) (ho : o.op = .store t p x) (haddr : a.eval p = .pointer (some ⟨g, o', none⟩)) (hoff : o' = ix.toNat * d.sz + k) (hx : a.eval x = u) (hu : u.cells.toList = seg)
    (ht : (P.info? t).map (·.size) = some seg.length) (h1 : ∀ q ∈ seg, q.oneCell' = true) (hcl : c.length = d.sz) (hk : k + seg.length ≤ d.sz) (h : ∀ w1, d.R e w1 base ok (.slice (some ⟨g, 0, none⟩) nn cap) (xs.set ix.toNat x') → W.grownBy w1 (some g) → wpList P ops Q rest a w1) (hN : o.dst = none := by rfl) (hgd : o.guard = none := by rfl) : wpList P ops Q (o :: rest) a W := by
  subst hoff
  obtain ⟨hrow, hg⟩ := Kd.R_seg HO ix h0 hi' hcl hcc hk hM (fun _ hk => hk.elim)
  have hrun := store_run (P := P) HO h0 hi' hu ht h1 hk
  refine wpList_plain hgd fun K hK => ?_
  unfold Oper.wp execOp
  simp only [ho, haddr, hx, Sem.run_bind, Sem.run_pure, Result.andThen_ok, hrun]
  show K (a.put o.dst undef) _
  rw [hN]
  exact hK a _ (h _ hrow hg)
end
theorem cc1 {W : World} {g n : Nat} {v : Value} (h : W.cell? ⟨g, n, none⟩ = some v) : ∀ (j : Nat) u, [v][j]? = some u → W.cell? ⟨g, n + j, none⟩ = some u
  | 0, u, hj => by cases hj; exact h
  | j + 1, u, hj => by simp at hj
theorem cc8 {W : World} {g n : Nat} {v0 v1 v2 v3 v4 v5 v6 v7 : Value} (h : W.cell? ⟨g, n, none⟩ = some v0 ∧ W.cell? ⟨g, n + 1, none⟩ = some v1 ∧ W.cell? ⟨g, n + 2, none⟩ = some v2 ∧ W.cell? ⟨g, n + 3, none⟩ = some v3 ∧ W.cell? ⟨g, n + 4, none⟩ = some v4 ∧ W.cell? ⟨g, n + 5, none⟩ = some v5 ∧ W.cell? ⟨g, n + 6, none⟩ = some v6 ∧ W.cell? ⟨g, n + 7, none⟩ = some v7) : ∀ (j : Nat) u, [v0, v1, v2, v3, v4, v5, v6, v7][j]? = some u → W.cell? ⟨g, n + j, none⟩ = some u
  | 0, u, hj => by cases hj; exact h.1
  | 1, u, hj => by cases hj; exact h.2.1
  | 2, u, hj => by cases hj; exact h.2.2.1
  | 3, u, hj => by cases hj; exact h.2.2.2.1
  | 4, u, hj => by cases hj; exact h.2.2.2.2.1
  | 5, u, hj => by cases hj; exact h.2.2.2.2.2.1
  | 6, u, hj => by cases hj; exact h.2.2.2.2.2.2.1
  | 7, u, hj => by cases hj; exact h.2.2.2.2.2.2.2
  | j + 8, u, hj => by simp at hj
theorem one1 {v : Value} (h : v.oneCell' = true) : ∀ q ∈ [v], q.oneCell' = true := fun q hq => by rw [List.mem_singleton.1 hq]; exact h
end Go.Proofs.YtbanogkoaplcdaaGreat.Reg10
set_option linter.unusedVariables false
namespace Go.Proofs.YtbanogkoaplcdaaGreat.Reg11
open Go.RowKit Go.Proofs.YtbanogkoaplcdaaGreatW.PrintWords Go.Proofs.YtbanogkoaplcdaaGreatW.PrintLast Go.Proofs.YtbanogkoaplcdaaGreatW.PrintMore Go.Proofs.YtbanogkoaplcdaaGreat.Short Go.Proofs.YtbanogkoaplcdaaGreat.Auto Go.Proofs.YtbanogkoaplcdaaGreat.Lock Go.Proofs.YtbanogkoaplcdaaGreat.Reg9 Go.Proofs.YtbanogkoaplcdaaGreat.Reg10
theorem one10 {q v0 v1 v2 v3 v4 v5 v6 v7 v8 v9 : Value} (h : (v0.oneCell' && v1.oneCell' && v2.oneCell' && v3.oneCell' && v4.oneCell' && v5.oneCell' && v6.oneCell' && v7.oneCell' && v8.oneCell' && v9.oneCell') = true) (hq : q ∈ [v0, v1, v2, v3, v4, v5, v6, v7, v8, v9]) : q.oneCell' = true := by
  simp only [Bool.and_eq_true] at h
  simp only [List.mem_cons, List.not_mem_nil, or_false] at hq
  rcases hq with rfl | rfl | rfl | rfl | rfl | rfl | rfl | rfl | rfl | rfl <;> simp [h]
section
variable {P : Program} {ops : Array Oper} {rest : List Oper} {oA oS : Oper} {a : Act} {Q : Exit → Act → World → Prop} {W : World}
theorem al10_ {N : Tmp} {t : TypeId} {zs : Array Value} {v0 v1 v2 v3 v4 v5 v6 v7 v8 v9 : Value} {x : Operand} (hoS : oS.op = .store t (.tmp N) x)
    (h : ∀ g w1, g = W.heap.size → w1.heap[g]? = some (.cells #[v0, v1, v2, v3, v4, v5, v6, v7, v8, v9] t (0, 0)) → Below W.heap.size W w1 → wpList P ops Q rest (a.put oA.dst (.pointer (some ⟨g, 0, none⟩))) w1) (hx : ∀ g, (a.put oA.dst (.pointer (some ⟨g, 0, none⟩))).eval x = .agg #[v0, v1, v2, v3, v4, v5, v6, v7, v8, v9] := by intro g; rfl)
    (h1 : (v0.oneCell' && v1.oneCell' && v2.oneCell' && v3.oneCell' && v4.oneCell' && v5.oneCell' && v6.oneCell' && v7.oneCell' && v8.oneCell' && v9.oneCell') = true := by rfl) (hdS : oS.dst = none := by rfl) (hd : oA.dst = some N := by rfl) (hgA : oA.guard = none := by rfl) (hgS : oS.guard = none := by rfl)
    (hrunA : (execOp a.eval oA).run P W = .ok (.value (.pointer (some ⟨W.heap.size, 0, none⟩))) (W.alloc (.cells zs t (0, 0))) := by go_simp; rfl) (hz : zs.size = 10 := by rfl) (ht : (P.info? t).map (·.size) = some 10 := by rfl)
    (hp : ∀ g, (a.put oA.dst (.pointer (some ⟨g, 0, none⟩))).eval (.tmp N) = .pointer (some ⟨g, 0, none⟩) := by intro g; rfl) : wpList P ops Q (oA :: oS :: rest) a W :=
  alst_ (u := .agg #[v0, v1, v2, v3, v4, v5, v6, v7, v8, v9]) (seg := [v0, v1, v2, v3, v4, v5, v6, v7, v8, v9]) rfl hdS hd hgA hgS hoS hrunA ht hz hp hx (fun q hq => one10 h1 hq) h
end
theorem nofalse {p : Prop} (h : (some false : Option Bool) = some true) : p := by cases h
variable {P : Program} {ops : Array Oper} {Q : Exit → Act → World → Prop}
end Go.Proofs.YtbanogkoaplcdaaGreat.Reg11
set_option linter.unusedVariables false
namespace Go.Proofs.YtbanogkoaplcdaaGreat.Reg12
open Go.RowKit Go.Proofs.YtbanogkoaplcdaaGreatW.PrintWords Go.Proofs.YtbanogkoaplcdaaGreatW.PrintLast Go.Proofs.YtbanogkoaplcdaaGreatW.PrintMore Go.Proofs.YtbanogkoaplcdaaGreat.Short Go.Proofs.YtbanogkoaplcdaaGreat.Auto Go.Proofs.YtbanogkoaplcdaaGreat.Lock Go.Proofs.YtbanogkoaplcdaaGreat.Reg9 Go.Proofs.YtbanogkoaplcdaaGreat.Reg10 Go.Proofs.YtbanogkoaplcdaaGreat.Reg11
section
variable {P : Program} {ops : Array Oper} {rest : List Oper} {o : Oper} {a : Act} {Q : Exit → Act → World → Prop} {W : World}
theorem stS_ {α : Type} {d : Kd α} {p x : Operand} {t : TypeId} {e base g nn cap o' k : Nat} {ix : Int} {xs : List α} {x' : α} {u : Value} {seg : List Value} {ok : Nat → Prop} (z : α) (HO : Kd.S d e W base ok (.slice (some ⟨g, 0, none⟩) nn cap) xs) (h0 : 0 ≤ ix) (hi' : ix < nn)
    (hM : ∀ (oki : Nat → Prop) c, d.M W base oki (xs.getD ix.toNat z) c → d.M W base oki x' (c.take k ++ seg ++ c.drop (k + seg.length))) (ho : o.op = .store t p x) (haddr : a.eval p = .pointer (some ⟨g, o', none⟩)) (hoff : o' = ix.toNat * d.sz + k) (hx : a.eval x = u) (hu : u.cells.toList = seg)
    (ht : (P.info? t).map (·.size) = some seg.length) (h1 : ∀ q ∈ seg, q.oneCell' = true) (hk : k + seg.length ≤ d.sz) (h : ∀ w1, Kd.S d e w1 base ok (.slice (some ⟨g, 0, none⟩) nn cap) (xs.set ix.toNat x') → W.grownBy w1 (some g) → wpList P ops Q rest a w1) (hN : o.dst = none := by rfl) (hgd : o.guard = none := by rfl) : wpList P ops Q (o :: rest) a W := by
  subst hoff
  obtain ⟨oki, c, hcl, hm, hcc, hoki, hH⟩ := Kd.S_lend HO z ix h0 hi'
  obtain ⟨hrow, hg⟩ := Kd.S_seg (okg := fun _ => False) (Kd.H_mono hH (fun k hk => ⟨hk, fun h => h⟩)) h0 hi' hk (hM oki c hm) (fun _ hk => .inl hk) (fun _ hk => hk.elim)
  have hrun := store_run (P := P) (Kd.S_R HO) h0 hi' hu ht h1 hk
  refine wpList_plain hgd fun K hK => ?_
  unfold Oper.wp execOp
  simp only [ho, haddr, hx, Sem.run_bind, Sem.run_pure, Result.andThen_ok, hrun]
  show K (a.put o.dst undef) _
  rw [hN]
  exact hK a _ (h _ hrow hg)
end
theorem getD_set {α : Type} {l : List α} {i : Nat} {x z : α} (h : i < l.length) : (l.set i x).getD i z = x := by rw [List.getD_eq_getElem?_getD, List.getElem?_set_self h]; rfl
theorem set_self {α : Type} {l : List α} {i : Nat} {z : α} (h : i < l.length) : l.set i (l.getD i z) = l := by
  rw [List.getD_eq_getElem?_getD, List.getElem?_eq_getElem h]
  exact List.set_getElem_self h
section
variable {P : Program} {ops : Array Oper} {rest : List Oper} {o : Oper} {a : Act} {Q : Exit → Act → World → Prop} {W : World}
theorem stA_ {α : Type} {d : Kd α} {p x : Operand} {t : TypeId} {e base g nn cap o' k : Nat} {ix : Int} {l : List α} {y y' : α} {u : Value} {ok : Nat → Prop} (HO : Kd.S d e W base ok (.slice (some ⟨g, 0, none⟩) nn cap) (l.set ix.toNat y)) (h0 : 0 ≤ ix) (hi' : ix < nn) (hl : ix.toNat < l.length)
    (hM : ∀ (oki : Nat → Prop) c, d.M W base oki y c → d.M W base oki y' (c.take k ++ [u] ++ c.drop (k + 1))) (z : α) (ho : o.op = .store t p x) (haddr : a.eval p = .pointer (some ⟨g, o', none⟩)) (hoff : o' = ix.toNat * d.sz + k) (hx : a.eval x = u) (hu : u.cells.toList = [u])
    (ht : (P.info? t).map (·.size) = some 1) (h1 : u.oneCell' = true) (hk : k + 1 ≤ d.sz) (h : ∀ w1, Kd.S d e w1 base ok (.slice (some ⟨g, 0, none⟩) nn cap) (l.set ix.toNat y') → W.grownBy w1 (some g) → wpList P ops Q rest a w1) (hN : o.dst = none := by rfl) (hgd : o.guard = none := by rfl) : wpList P ops Q (o :: rest) a W :=
  stS_ (seg := [u]) z HO h0 hi' (fun oki c hc => hM oki c (by rwa [getD_set hl] at hc)) ho haddr hoff hx hu ht (one1 h1) hk (fun w1 hs hg => h w1 (by rwa [List.set_set] at hs) hg) hN hgd
end
section
variable {P : Program} {ops : Array Oper} {rest : List Oper} {o : Oper} {a : Act} {Q : Exit → Act → World → Prop} {W : World}
theorem stO_ {α : Type} {d : Kd α} {p x : Operand} {t : TypeId} {e base g nn cap o' N : Nat} {ix : Int} {xs : List α} {x' : α} {u : Value} {seg : List Value} (z : α) (HO : Kd.S d e W base (fun k => True ∧ k < N) (.slice (some ⟨g, 0, none⟩) nn cap) xs) (hgN : g < N) (h0 : 0 ≤ ix) (hi' : ix < nn)
    (hM : d.M W base (fun k => N ≤ k) x' seg) (ho : o.op = .store t p x) (haddr : a.eval p = .pointer (some ⟨g, o', none⟩)) (hoff : o' = ix.toNat * d.sz) (hx : a.eval x = u) (hu : u.cells.toList = seg)
    (ht : (P.info? t).map (·.size) = some seg.length) (h1 : ∀ q ∈ seg, q.oneCell' = true) (hk : seg.length = d.sz) (h : ∀ w1, Kd.S d e w1 base (fun _ => True) (.slice (some ⟨g, 0, none⟩) nn cap) (xs.set ix.toNat x') → W.grownBy w1 (some g) → wpList P ops Q rest a w1) (hN : o.dst = none := by rfl) (hgd : o.guard = none := by rfl) : wpList P ops Q (o :: rest) a W := by
  subst hoff
  obtain ⟨oki, c, hcl, hm, hcc, hoki, hH⟩ := Kd.S_lend (Kd.S_mono (ok' := fun k => True ∧ ¬ N ≤ k) HO (fun k hk => ⟨trivial, by omega⟩)) z ix h0 hi'
  have hc : c.take 0 ++ seg ++ c.drop (0 + seg.length) = seg := by rw [Nat.zero_add, hk, ← hcl, List.drop_length]; simp
  obtain ⟨hrow, hg⟩ := Kd.S_seg (ok := fun _ => True) (okg := fun k => N ≤ k) (j := 0) (x' := x') (okp := fun k => N ≤ k) (seg := seg) hH h0 hi' (by omega) (hc.symm ▸ hM) (fun _ hk => .inr hk) (fun k hk => ⟨trivial, by omega⟩)
  have hrun := store_run (P := P) (j := 0) (Kd.S_R HO) h0 hi' hu ht h1 (by omega)
  rw [Nat.add_zero] at hrun hrow hg
  refine wpList_plain hgd fun K hK => ?_
  unfold Oper.wp execOp
  simp only [ho, haddr, hx, Sem.run_bind, Sem.run_pure, Result.andThen_ok, hrun]
  show K (a.put o.dst undef) _
  rw [hN]
  exact hK a _ (h _ hrow hg)
end
section
variable {P : Program} {ops : Array Oper} {rest : List Oper} {o : Oper} {a : Act} {Q : Exit → Act → World → Prop} {W : World}
theorem stB_ {α : Type} {d : Kd α} {p x : Operand} {t : TypeId} {e base g nn cap o' k : Nat} {ix : Int} {l : List α} {y y' : α} {u : Value} {ok : Nat → Prop} (z : α) (HO : d.R e W base ok (.slice (some ⟨g, 0, none⟩) nn cap) (l.set ix.toNat y)) (h0 : 0 ≤ ix) (hi' : ix < nn) (hl : ix.toNat < l.length)
    (hM : ∀ (okx : Nat → Prop) c, d.M W base okx y c → d.M W base (fun _ => False) y' (c.take k ++ [u] ++ c.drop (k + 1))) (ho : o.op = .store t p x) (haddr : a.eval p = .pointer (some ⟨g, o', none⟩)) (hoff : o' = ix.toNat * d.sz + k) (hx : a.eval x = u) (hu : u.cells.toList = [u])
    (ht : (P.info? t).map (·.size) = some 1) (h1 : u.oneCell' = true) (hk : k + 1 ≤ d.sz) (h : ∀ w1, d.R e w1 base ok (.slice (some ⟨g, 0, none⟩) nn cap) (l.set ix.toNat y') → W.grownBy w1 (some g) → wpList P ops Q rest a w1) (hN : o.dst = none := by rfl) (hgd : o.guard = none := by rfl) : wpList P ops Q (o :: rest) a W := by
  obtain ⟨c, hcl, hm, hcc, _⟩ := Kd.R_elem HO z ix h0 hi'
  rw [getD_set hl] at hm
  exact stp_ (seg := [u]) HO hcc h0 hi' (hM _ c hm) ho haddr hoff hx hu ht (one1 h1) hcl hk (fun w1 hs hg => h w1 (by rwa [List.set_set] at hs) hg) hN hgd
end
end Go.Proofs.YtbanogkoaplcdaaGreat.Reg12
set_option linter.unusedVariables false
namespace Go.Proofs.YtbanogkoaplcdaaGreat.Reg13
open Go.RowKit Go.Proofs.YtbanogkoaplcdaaGreatW.PrintWords Go.Proofs.YtbanogkoaplcdaaGreatW.PrintLast Go.Proofs.YtbanogkoaplcdaaGreatW.PrintMore Go.Proofs.YtbanogkoaplcdaaGreat.Short Go.Proofs.YtbanogkoaplcdaaGreat.Auto Go.Proofs.YtbanogkoaplcdaaGreat.Lock Go.Proofs.YtbanogkoaplcdaaGreat.Reg9 Go.Proofs.YtbanogkoaplcdaaGreat.Reg10 Go.Proofs.YtbanogkoaplcdaaGreat.Reg11
def TD : Bool × List (List Nat × List Nat) := (true, [([], []), ([], []), ([], []), ([1, 2], [1, 2]), ([3], [3]), ([0, 4], [0, 4]), ([5], [5]), ([6], [6]), ([6], [6]), ([], []), ([9, 7, 5, 0, 1, 2, 3, 4, 5, 6, 7, 9], [7, 9]), ([8, 10, 0, 1, 2, 3, 4, 5, 6, 7, 8, 9, 10], [8])])
variable {P : Program} {ops : Array Oper} {Q : Exit → Act → World → Prop}
set_option maxHeartbeats 8000000 in
theorem reg12_ {b m G H TS f3 : Nat} {ty5 ty6 ty7 ty8 ty9 ty10 ty11 : TypeId} {p5 p6 p7 p8 p9 p10 p11 : String} {q5 q6 q7 q8 q9 q10 q11 : Array Edge} {fn3 : Func} {ts3 : Array TypeId}
    {a1 : Act} {w0 W : World} {u1 u2 : Value} {zs : Array Value} {R3 : Value → Value → Value → Value → Value → World → Prop} (hs : Below w0.heap.size w0 W)
    (hc3 : ∀ W, Below w0.heap.size w0 W → Calls P f3 #[u1, u2] W (fun e w' => ∃ s0 s1 s2 s3 y, e = .returned (.tuple #[.agg #[s0, s1, s2, s3], y]) ∧ (s0.oneCell' = true ∧ s1.oneCell' = true ∧ s2.oneCell' = true ∧ s3.oneCell' = true) ∧ R3 s0 s1 s2 s3 y w' ∧ Below W.heap.size W w')) (hm3 : ∀ s0 s1 s2 s3 y W W', R3 s0 s1 s2 s3 y W → Below W.heap.size W W' → R3 s0 s1 s2 s3 y W')
    (hm4 : ∀ s0 s1 s2 s3 y W g cs, R3 s0 s1 s2 s3 y W → W.heap[g]? = some (.cells cs TS (0, 0)) → R3 s0 s1 s2 s3 y (W.setCells g 0 [s0, s1, s2, s3]))
    (hQ : ∀ s0 s1 s2 s3 y g w', R3 s0 s1 s2 s3 y w' → w'.heap[g]? = some (.cells #[s0, s1, s2, s3] TS (0, 0)) → w0.heap.size ≤ g → Below w0.heap.size w0 w' → Q .normal ((((((a1.put (some (b + 5)) (.tuple #[.agg #[s0, s1, s2, s3], y])).put (some m) (.tuple #[.agg #[s0, s1, s2, s3], y])).put (some (b + 6)) (.agg #[s0, s1, s2, s3])).put (some (b + 7)) y).put (some G) (.pointer (some ⟨g, 0, none⟩))).put (some H) y) w')
    (h5 : ops[5]? = some ⟨some (b + 5), .call { callee := .value (.func f3), args := #[.tmp b, .tmp (b + 4)], argTypes := ts3 }, ty5, p5, q5, none⟩ := by rfl)
    (h6 : ops[6]? = some ⟨some m, .move (.tmp (b + 5)), ty6, p6, q6, none⟩ := by rfl) (h7 : ops[7]? = some ⟨some (b + 6), .extract (.tmp m) 0, ty7, p7, q7, none⟩ := by rfl) (h8 : ops[8]? = some ⟨some (b + 7), .extract (.tmp m) 1, ty8, p8, q8, none⟩ := by rfl)
    (h9 : ops[9]? = some ⟨some G, .alloc TS, ty9, p9, q9, none⟩ := by rfl) (h10 : ops[10]? = some ⟨none, .store TS (.tmp G) (.tmp (b + 6)), ty10, p10, q10, none⟩ := by rfl) (h11 : ops[11]? = some ⟨some H, .assign (.tmp (b + 7)), ty11, p11, q11, none⟩ := by rfl)
    (hra : ∀ (ev : Operand → Value) (W : World), (execOp ev ⟨some G, .alloc TS, ty9, p9, q9, none⟩).run P W = .ok (.value (.pointer (some ⟨W.heap.size, 0, none⟩))) (W.alloc (.cells zs TS (0, 0))) := by intro ev W; go_simp; rfl) (hz : zs.size = 4 := by rfl) (hsz4 : (P.info? TS).map (·.size) = some 4 := by rfl)
    (e1 : a1.tmps[b]? = some u1 := by rfl) (e2 : a1.tmps[b + 4]? = some u2 := by rfl) (hsz : Nat.ble (b + 8) a1.tmps.size = true := by rfl) (hlt : (Nat.ble (m + 1) b && Nat.ble (G + 1) m && Nat.ble (H + 1) m) = true := by rfl)
    (hf3 : P.funcs[f3]? = some fn3 := by rfl) (hn3 : (fn3.name == "runtime.NumGoroutine") = false := by kernel_rfl) (hb3 : fn3.body.isSome = true := by rfl)
    (hQp : ∀ (N : Tmp) v c a w, Q (.panic c) (a.put (some N) v) w → Q (.panic c) a w := by exact fun _ _ _ _ _ h => h) (hT : rtab .any ops = TD := by kernel_rfl) : wpAnyLast P .any ops Q (fun W => Below w0.heap.size w0 W) [] 7 (pre 12 5) a1 W := by
  have hs1 := Nat.le_of_ble_eq_true hsz
  simp only [Bool.and_eq_true] at hlt
  obtain ⟨⟨t3, t4⟩, t5⟩ := hlt
  replace t3 := Nat.le_of_ble_eq_true t3; replace t4 := Nat.le_of_ble_eq_true t4; replace t5 := Nat.le_of_ble_eq_true t5
  rw [show pre 12 5 = mb 12 31 by rfl]
  obtain ⟨S, hS⟩ : ∃ S : World → Prop, S = fun W => Below w0.heap.size w0 W := ⟨_, rfl⟩
  have sB : ∀ {W}, S W → Below w0.heap.size w0 W := fun {W} h => by rw [hS] at h; exact h
  have mS : ∀ {W}, Below w0.heap.size w0 W → S W := fun {W} h => by rw [hS]; exact h
  have sS : ∀ {W W1}, S W → Below W.heap.size W W1 → S W1 := fun h hb => mS (below_step (sB h) hb)
  rw [← hS]
  replace hs := mS hs
  clear hS
  have fin : ∀ (a3 : Act) (s0 s1 s2 s3 y : Value) (g : Nat) (W : World), (s0.oneCell' = true ∧ s1.oneCell' = true ∧ s2.oneCell' = true ∧ s3.oneCell' = true) → R3 s0 s1 s2 s3 y W → W.heap[g]? = some (.cells zs TS (0, 0)) → w0.heap.size ≤ g → S W → a3.tmps.size = a1.tmps.size → a3.tmps[b + 6]? = some (.agg #[s0, s1, s2, s3]) → a3.tmps[b + 7]? = some y → (∀ w', R3 s0 s1 s2 s3 y w' → w'.heap[g]? = some (.cells #[s0, s1, s2, s3] TS (0, 0)) → Below w0.heap.size w0 w' → Q .normal ((a3.put (some G) (.pointer (some ⟨g, 0, none⟩))).put (some H) y) w') → wpAnyLast P .any ops Q S [] 2 (mb 12 1023) (a3.put (some G) (.pointer (some ⟨g, 0, none⟩))) W := by
    intro a3 s0 s1 s2 s3 y g W h1c hr hg hgw hs z3 q5 q6 hend
    have hrun := run_store_run (P := P) (o := 0) TS (.agg #[s0, s1, s2, s3]) [s0, s1, s2, s3] hg rfl hsz4 (by rw [hz]; exact Nat.le_refl 4) (fun q hq => one4 h1c hq)
    obtain ⟨k1, k2, k3, k4⟩ := setCells_same g [s0, s1, s2, s3] 0 W
    have hW : Below w0.heap.size w0 (W.setCells g 0 [s0, s1, s2, s3]) := (sB hs).trans ⟨k1, k2, k3, Nat.le_of_eq k4.symm, fun k hk => setCells_far _ 0 k (by omega)⟩
    have hblk := setCells_all (seg := [s0, s1, s2, s3]) hg (by rw [hz]; rfl)
    have hR := hm4 _ _ _ _ _ _ _ _ hr hg
    generalize W.setCells g 0 [s0, s1, s2, s3] = W2 at hrun hW hblk hR
    clear k1 k2 k3 k4 hr
    have eG : (a3.put (some G) (.pointer (some ⟨g, 0, none⟩))).eval (.tmp G) = .pointer (some ⟨g, 0, none⟩) := ev_ (puteq (by omega))
    have e5 : (a3.put (some G) (.pointer (some ⟨g, 0, none⟩))).eval (.tmp (b + 6)) = .agg #[s0, s1, s2, s3] := ev_ ((putne (by omega)).trans q5)
    have e6 : (a3.put (some G) (.pointer (some ⟨g, 0, none⟩))).eval (.tmp (b + 7)) = y := ev_ ((putne (by omega)).trans q6)
    refine one_ (i := 10) (mb 12 2047) h10 rfl (one_of hT (by kernel_rfl)) (by decide) (fun K hK => ?_)
    refine skip_ rfl rfl (w1 := W2) ?_ (hK.out _ _ (mS hW) (fun _ => ?_))
    · simp only [execOp, eG, e5]
      rw [Sem.run_bind, hrun]; rfl
    refine pure_ (i := 11) (v := y) (mb 12 4095) h11 rfl (any_of hT (by kernel_rfl)) (fun _ _ _ h => hQp _ _ _ _ _ h) (Or.inl ⟨by rfl, fun w' => ?_⟩) rfl (done_ (done_of hT (by kernel_rfl)) (hend _ hR hblk hW))
    simp only [execOp, e6]
    rfl
  have e511 : ∀ (s0 s1 s2 s3 y : Value) (g : Nat) (W : World), (s0.oneCell' = true ∧ s1.oneCell' = true ∧ s2.oneCell' = true ∧ s3.oneCell' = true) → R3 s0 s1 s2 s3 y W → W.heap[g]? = some (.cells zs TS (0, 0)) → w0.heap.size ≤ g → S W → wpAnyLast P .any ops Q S [] 2 (mb 12 1023) (((((a1.put (some (b + 5)) (.tuple #[.agg #[s0, s1, s2, s3], y])).put (some m) (.tuple #[.agg #[s0, s1, s2, s3], y])).put (some (b + 6)) (.agg #[s0, s1, s2, s3])).put (some (b + 7)) y).put (some G) (.pointer (some ⟨g, 0, none⟩))) W := by
    intro s0 s1 s2 s3 y g W h1c hr hg hgw hs
    exact fin _ s0 s1 s2 s3 y g W h1c hr hg hgw hs (by simp only [putsz]) ((putne (by omega)).trans (puteq (by simp only [putsz]; omega))) (puteq (by simp only [putsz]; omega)) (fun w' k1 k2 k4 => hQ s0 s1 s2 s3 y g w' k1 k2 hgw k4)
  have st8 : ∀ (K : Act → World → Prop) (a2 : Act) (W : World), S W → (∀ g w1, w1.heap[g]? = some (.cells zs TS (0, 0)) → w0.heap.size ≤ g → Below W.heap.size W w1 → K (a2.put (some G) (.pointer (some ⟨g, 0, none⟩))) w1) → if Region.wanted ⟨some G, .alloc TS, ty9, p9, q9, none⟩ (yielded ops a2.tmps) = true then Oper.wp P ⟨some G, .alloc TS, ty9, p9, q9, none⟩ a2 W K Q else K (a2.put (some G) undef) W := by
    intro K a2 W hs hk
    exact value_ rfl rfl (hra _ W) (hk _ _ (blk_new W _) (sB hs).size (below_alloc (Below.refl _ _) _))
  have mv : ∀ (k1 k2 k3 k4 f : Nat) (a2 : Act) (t : Value) (x y : Value) (W : World), t = .tuple #[x, y] → a2.tmps.size = a1.tmps.size → a2.tmps[b + 5]? = some t → anyB .any ops (mb 12 k1) (mb 12 k2) 6 = true → anyB .any ops (mb 12 k2) (mb 12 k3) 7 = true → anyB .any ops (mb 12 k3) (mb 12 k4) 8 = true → wpAnyLast P .any ops Q S [] f (mb 12 k4) (((a2.put (some m) t).put (some (b + 6)) x).put (some (b + 7)) y) W → wpAnyLast P .any ops Q S [] (f + 3) (mb 12 k1) a2 W := by
    intro k1 k2 k3 k4 f a2 t x y W ht hsz2 hq n1 n2 n3 h
    subst ht
    refine pure_ (i := 6) (v := .tuple #[x, y]) (mb 12 k2) h6 rfl n1 (fun _ _ _ h => hQp _ _ _ _ _ h) (Or.inl ⟨by rfl, fun w' => by simp only [execOp, ev_ hq]; rfl⟩) rfl ?_
    refine pure_ (i := 7) (v := x) (mb 12 k3) h7 rfl n2 (fun _ _ _ h => hQp _ _ _ _ _ h) (Or.inl ⟨by rfl, fun w' => by simp only [execOp, ev_ (puteq (t := m) (u := .tuple #[x, y]) (a := a2) (by omega))]; rfl⟩) rfl ?_
    exact pure_ (i := 8) (v := y) (mb 12 k4) h8 rfl n3 (fun _ _ _ h => hQp _ _ _ _ _ h) (Or.inl ⟨by rfl, fun w' => by simp only [execOp, ev_ ((putne (a := a2.put (some m) (.tuple #[x, y])) (u := x) (s := b + 6) (t := m) (by omega)).trans (puteq (t := m) (u := .tuple #[x, y]) (a := a2) (by omega)))]; rfl⟩) rfl h
  have st4 : ∀ (K : Act → World → Prop) (a2 : Act) (W : World), S W → a2.tmps[b]? = some u1 → a2.tmps[b + 4]? = some u2 → (∀ s0 s1 s2 s3 y w1, (s0.oneCell' = true ∧ s1.oneCell' = true ∧ s2.oneCell' = true ∧ s3.oneCell' = true) → R3 s0 s1 s2 s3 y w1 → Below W.heap.size W w1 → K (a2.put (some (b + 5)) (.tuple #[.agg #[s0, s1, s2, s3], y])) w1) → if Region.wanted ⟨some (b + 5), .call { callee := .value (.func f3), args := #[.tmp b, .tmp (b + 4)], argTypes := ts3 }, ty5, p5, q5, none⟩ (yielded ops a2.tmps) = true then Oper.wp P ⟨some (b + 5), .call { callee := .value (.func f3), args := #[.tmp b, .tmp (b + 4)], argTypes := ts3 }, ty5, p5, q5, none⟩ a2 W K Q else K (a2.put (some (b + 5)) undef) W := by
    intro K a2 W hs e1 e2 hk
    refine goes_ hf3 hn3 hb3 #[u1, u2] rfl rfl rfl (by simp only [List.map_toArray, List.map_cons, List.map_nil, ev_ e1, ev_ e2]) ((hc3 W (sB hs)).mono ?_)
    rintro e w' ⟨s0, s1, s2, s3, y, rfl, h1c, hr, hb⟩
    exact ⟨_, rfl, hk _ _ _ _ _ w' h1c hr hb⟩
  refine two_ (i := 5) (j := 9) (mb 12 63) (mb 12 543) h5 h9 rfl rfl (two_of hT (by kernel_rfl)) (by decide) (by decide) (fun K hK => ?_) (fun K hK => ?_)
  · refine st4 K _ W hs e1 e2 (fun s0 s1 s2 s3 y w1 h1c hr hb => hK.out _ _ (sS hs hb) (fun hs1 => ?_))
    refine mv 63 127 255 511 3 _ _ (.agg #[s0, s1, s2, s3]) y w1 rfl (by simp only [putsz]) (puteq (by omega)) (any_of hT (by kernel_rfl)) (any_of hT (by kernel_rfl)) (any_of hT (by kernel_rfl)) ?_
    refine one_ (i := 9) (mb 12 1023) h9 rfl (one_of hT (by kernel_rfl)) (by decide) (fun K hK => ?_)
    exact st8 K _ w1 hs1 (fun g w2 hg hgw hb2 => hK.out _ _ (sS hs1 hb2) (fun hs2 => e511 _ _ _ _ _ g _ h1c (hm3 _ _ _ _ _ _ _ hr hb2) hg hgw hs2))
  · refine st8 K _ W hs (fun g w1 hg hgw hb => hK.out _ _ (sS hs hb) (fun hs1 => ?_))
    refine one_ (i := 5) (mb 12 575) h5 rfl (one_of hT (by kernel_rfl)) (by decide) (fun K hK => ?_)
    refine st4 K _ w1 hs1 ((putne (by omega)).trans e1) ((putne (by omega)).trans e2) (fun s0 s1 s2 s3 y w2 h1c hr hb2 => hK.out _ _ (sS hs1 hb2) (fun hs2 => ?_))
    refine mv 575 639 767 1023 2 _ _ (.agg #[s0, s1, s2, s3]) y w2 rfl (by simp only [putsz]) (puteq (by simp only [putsz]; omega)) (any_of hT (by kernel_rfl)) (any_of hT (by kernel_rfl)) (any_of hT (by kernel_rfl)) ?_
    rw [putc (s := G) (t := b + 5) (by omega), putc (s := G) (t := m) (by omega), putc (s := G) (t := b + 6) (by omega), putc (s := G) (t := b + 7) (by omega)]
    exact e511 _ _ _ _ _ g _ h1c hr (blk_below hg hb2) hgw hs2
section
variable {rest : List Oper} {o : Oper} {a : Act} {W : World}
theorem stw_ {g : Nat} {cs : Array Value} {t : TypeId} {v0 v1 v2 v3 : Value} {p x : Operand} (hb : W.heap[g]? = some (.cells cs t (0, 0))) (h1 : v0.oneCell' = true ∧ v1.oneCell' = true ∧ v2.oneCell' = true ∧ v3.oneCell' = true) (h : ∀ w1, w1 = W.setCells g 0 [v0, v1, v2, v3] → wpList P ops Q rest a w1)
    (ho : o.op = .store t p x := by rfl) (haddr : a.eval p = .pointer (some ⟨g, 0, none⟩) := by rfl) (hx : a.eval x = .agg #[v0, v1, v2, v3] := by rfl) (hz : cs.size = 4 := by rfl) (ht : (P.info? t).map (·.size) = some 4 := by rfl) (hN : o.dst = none := by rfl) (hgd : o.guard = none := by rfl) : wpList P ops Q (o :: rest) a W := by
  have hrun := run_store_run (P := P) (o := 0) t (.agg #[v0, v1, v2, v3]) [v0, v1, v2, v3] hb rfl ht (by rw [hz]; exact Nat.le_refl 4) (fun q hq => one4 h1 hq)
  refine wpList_plain hgd fun K hK => ?_
  unfold Oper.wp execOp
  simp only [ho, haddr, hx, Sem.run_bind, Sem.run_pure, Result.andThen_ok, hrun]
  show K (a.put o.dst undef) _
  rw [hN]
  exact hK a _ (h _ rfl)
end
end Go.Proofs.YtbanogkoaplcdaaGreat.Reg13
set_option linter.unusedVariables false
namespace Go.Proofs.YtbanogkoaplcdaaGreat.Reg14
open Go.RowKit Go.Proofs.YtbanogkoaplcdaaGreatW.PrintWords Go.Proofs.YtbanogkoaplcdaaGreatW.PrintLast Go.Proofs.YtbanogkoaplcdaaGreatW.PrintMore Go.Proofs.YtbanogkoaplcdaaGreat.Short Go.Proofs.YtbanogkoaplcdaaGreat.Auto Go.Proofs.YtbanogkoaplcdaaGreat.Lock Go.Proofs.YtbanogkoaplcdaaGreat.Reg9 Go.Proofs.YtbanogkoaplcdaaGreat.Reg10 Go.Proofs.YtbanogkoaplcdaaGreat.Reg11
def Ch (w0 : World) (es : List Nat) (W W' : World) : Prop := (Below w0.heap.size w0 W → Below w0.heap.size w0 W') ∧ ∀ (j : Nat) (cs : Array Value) (t : Nat), W.heap[j]? = some (Obj.cells cs t (0, 0)) → t ∉ es → W'.heap[j]? = some (Obj.cells cs t (0, 0))
theorem Ch.same {w0 W : World} {es : List Nat} : Ch w0 es W W := ⟨id, fun _ _ _ h _ => h⟩
theorem Ch.R {α : Type} {d : Kd α} {e : Nat} {w0 W W' : World} {es : List Nat} {base : Nat} {ok : Nat → Prop} {v : Value} {xs : List α} (h : Ch w0 es W W') (hr : d.R e W base ok v xs) (ht : ∀ q ∈ e :: d.E, q ∉ es) : d.R e W' base ok v xs := by
  refine Kd.R_mono (Kd.R_move (Kd.R_bound hr) (fun k hk => ?_)) (fun _ hk => hk.1)
  obtain ⟨_, _, _, q, hq, cs, hc⟩ := hk
  rw [h.2 k cs q hc (ht q hq), hc]
theorem Ch.grown {w0 W W' : World} {row : Option Nat} {es : List Nat} (hg : W.grownBy W' row) (hb : Below w0.heap.size w0 W → Below w0.heap.size w0 W') (h : ∀ j cs t, W.heap[j]? = some (.cells cs t (0, 0)) → t ∉ es → some j ≠ row) : Ch w0 es W W' :=
  ⟨hb, fun j cs t hj ht => (hg.block j (blk_lt hj) (h j cs t hj ht)).trans hj⟩
variable {P : Program} {ops : Array Oper} {Q : Exit → Act → World → Prop} {T : Bool × List (List Nat × List Nat)} {B : List Nat}
def freeOk (z lo sz : Nat) (B : List Nat) (N con : Nat → Nat) (ty ch : Nat → List Nat) : Bool :=
  (List.range z).all fun i => (B.getD z 0).testBit i && (decide (lo ≤ N i) && (decide (N i < sz) && (List.range z).all fun j => i == j || (N i != N j && (con j == i || ((B.getD j 0).testBit i || (ch i).all fun t => !(ty j).contains t)))))
theorem free_ {id z lo : Nat} {a0 : Act} {w0 w : World} {N con : Nat → Nat} {ty ch : Nat → List Nat} {R : Nat → Value → World → Prop} {X : World → Prop}
    (hX0 : X w.drew) (hX : ∀ i W W', i < z → X W → Ch w0 (ch i) W W' → X W') (hst : ∀ j v W W' es, R j v W → Ch w0 es W W' → (∀ t ∈ es, t ∉ ty j) → R j v W')
    (hs : ∀ i, i < z → ∀ a W, X W → (∀ t, t < lo → a.tmps[t]? = a0.tmps[t]?) → (∀ j, j < z → (B.getD i 0).testBit j = true → con j = i ∨ con j = z → ∃ v, a.tmps[N j]? = some v ∧ R j v W) →
      ∃ oi, ops[i]? = some oi ∧ oi.dst = some (N i) ∧ ∀ K : Act → World → Prop, (∀ v W', R i v W' → Ch w0 (ch i) W W' → K (a.put (some (N i)) v) W') → if Region.wanted oi (yielded ops a.tmps) = true then Oper.wp P oi a W K Q else K (a.put oi.dst undef) W)
    (he : ∀ a W, X W → a.defers = a0.defers → (∀ t, t < lo → a.tmps[t]? = a0.tmps[t]?) → (∀ j, j < z → con j = z → ∃ v, a.tmps[N j]? = some v ∧ R j v W) → ∃ oi, ops[z]? = some oi ∧ ∀ K : Act → World → Prop, (∀ a' W', Q .normal a' W' → K a' W') → if Region.wanted oi (yielded ops a.tmps) = true then Oper.wp P oi a W K Q else K (a.put oi.dst undef) W)
    (hf : freeOk z lo a0.tmps.size B N con ty ch = true) (hT : rtab .any ops = T) (hw : waitsOk T.2 B = true) (hk : baseOk T.2 (List.range (z + 1)) = true) (hl : (T.2.length == z + 1 && (ops.size == z + 1)) = true) (hm : P.follows .mixedOrders = true := by kernel_rfl) : (Code.region id ops true).wp P Q a0 w := by
  simp only [Bool.and_eq_true, beq_iff_eq] at hl
  have hf : ∀ i, i < z → (B.getD z 0).testBit i = true ∧ lo ≤ N i ∧ N i < a0.tmps.size ∧ ∀ j, j < z → i ≠ j → N i ≠ N j ∧ (con j = i ∨ (B.getD j 0).testBit i = true ∨ ∀ t ∈ ch i, t ∉ ty j) := fun i hi => by
    have h := List.all_eq_true.1 hf i (List.mem_range.2 hi)
    simp only [Bool.and_eq_true, decide_eq_true_eq] at h
    refine ⟨h.1, h.2.1, h.2.2.1, fun j hj hij => ?_⟩
    have h2 := List.all_eq_true.1 h.2.2.2 j (List.mem_range.2 hj)
    simp only [Bool.or_eq_true, Bool.and_eq_true, beq_iff_eq, bne_iff_ne, ne_eq, List.all_eq_true, Bool.not_eq_true'] at h2
    have h2 := h2.resolve_left hij
    exact ⟨h2.1, h2.2.imp (fun h => h) (fun h => h.imp (fun h => h) (fun h t ht hc => by have := h t ht; rw [List.contains_iff_mem.2 hc] at this; cases this))⟩
  have hO : ∀ i, i ≤ z → (List.range (z + 1)).contains i = true := fun i hi => List.contains_iff_mem.2 (List.mem_range.2 (by omega))
  refine start_ (S := fun _ => True) (ds := []) (n := z + 1) (Array.replicate (z + 1) false) hm hl.2 rfl trivial (fun _ => ?_)
  refine inv_ (T := T) (B := B) (List.range (z + 1)) (fun b a W => (b z = true ∧ Q .normal a W) ∨ (b z = false ∧ X W ∧ a.tmps.size = a0.tmps.size ∧ a.defers = a0.defers ∧ (∀ t, t < lo → a.tmps[t]? = a0.tmps[t]?) ∧ ∀ j, j < z → b j = true → b (con j) = false → ∃ v, a.tmps[N j]? = some v ∧ R j v W)) hT hw hk ?_ (.inr ⟨rfl, hX0, rfl, rfl, fun _ _ => rfl, fun _ _ h => by cases h⟩) ?_ ?_
  · rw [hl.1, Bool.and_eq_true, beq_iff_eq, beq_iff_eq, List.length_range]
    refine ⟨?_, rfl⟩
    apply List.ext_getElem (by simp [lof])
    intro i h1 h2
    simp [lof] at h1 ⊢
    omega
  · intro i hi b a W hI hb hon hoff
    have hi : i ≤ z := by have := List.mem_range.1 hi; omega
    have hon : ∀ j, j < z → (B.getD i 0).testBit j = true → b j = true := fun j hj h => hon j (by rw [hO j (by omega), h]; rfl)
    by_cases hiz : i = z
    · subst hiz
      obtain ⟨_, hX1, hs1, hdf, hlo, hR⟩ := hI.resolve_left (fun h => by rw [hb] at h; cases h.1)
      obtain ⟨oi, h1, h2⟩ := he a W hX1 hdf hlo (fun j hj hc => hR j hj (hon j hj (hf j hj).1) (by rw [hc]; exact hb))
      exact ⟨oi, h1, fun K hK => h2 K (fun a' W' hq => hK.out _ _ (.inl ⟨up_self _ _, hq⟩))⟩
    · have hiz' : i < z := by omega
      obtain ⟨f1, f2, f3, f4⟩ := hf i hiz'
      have hbz : b z = false := hoff z (by rw [hO z (Nat.le_refl _), f1]; rfl)
      obtain ⟨_, hX1, hs1, hdf, hlo, hR⟩ := hI.resolve_left (fun h => by rw [hbz] at h; cases h.1)
      obtain ⟨oi, h1, h2, h3⟩ := hs i hiz' a W hX1 hlo (fun j hj ht hc => hR j hj (hon j hj ht) (by rcases hc with hc | hc <;> rw [hc] <;> assumption))
      refine ⟨oi, h1, fun K hK => h3 K (fun v W' hv hch => hK.out _ _ (.inr ⟨by rw [up_ne (Ne.symm hiz)]; exact hbz, hX i W W' hiz' hX1 hch, by rw [putsz]; exact hs1, hdf, fun t ht => (putne (by omega)).trans (hlo t ht), fun j hj hbj hcj => ?_⟩))⟩
      by_cases hji : j = i
      · subst hji
        exact ⟨v, puteq (by omega), hv⟩
      · rw [up_ne hji] at hbj
        have hci : con j ≠ i := fun e => by rw [e, up_self] at hcj; cases hcj
        rw [up_ne hci] at hcj
        obtain ⟨u, hu, hr⟩ := hR j hj hbj hcj
        obtain ⟨g1, g2⟩ := f4 j hj (Ne.symm hji)
        refine ⟨u, (putne g1).trans hu, hst j u W W' _ hr hch ?_⟩
        rcases g2 with g2 | g2 | g2
        · exact absurd g2 hci
        · have := hoff j (by rw [hO j (by omega), g2]; rfl)
          rw [hbj] at this; cases this
        · exact g2
  · intro b a W hall hI
    rcases hI with h | h
    · exact h.2
    · have := hall z (hO z (Nat.le_refl _))
      rw [h.1] at this; cases this
section
variable {o : Oper} {a : Act} {K : Act → World → Prop} {w0 W : World} {α : Type} {d : Kd α} {e : Nat}
theorem fl_ {N : Tmp} (hK : ∀ v W', d.R e W' w0.heap.size (fun _ => True) v [] → Ch w0 [] W W' → K (a.put o.dst v) W') (HB : Below w0.heap.size w0 W) (hrun : (execOp a.eval o).run P W = .ok (.value (.slice (some ⟨W.heap.size, 0, none⟩) 0 0)) (W.alloc (.cells #[] e)) := by first | (go_simp; done) | (go_simp; rfl)) (hd : o.dst = some N := by rfl) (hw : Region.wanted o (yielded ops a.tmps) = true := by rfl) :
    if Region.wanted o (yielded ops a.tmps) = true then Oper.wp P o a W K Q else K (a.put o.dst undef) W :=
  Kd.R_lit_step d W.heap.size e hw (N := N) hd (w0 := W) (xs := []) (inner := []) (ok := fun _ => True) (okp := fun _ => True) hrun (Reps.none _ _) (fun _ hk => hk) trivial (Below.refl _ _) (Nat.le_refl _) (by simp) (fun v1 w1 h1 h2 hg _ => hK v1 w1 (Kd.R_lower h1 HB.size) (Ch.grown hg (fun hb => below_step hb h2) (by intros; simp)))
theorem fp_ {N : Tmp} {v : Value} (hrun : (execOp a.eval o).run P W = .ok (.value v) W) (hK : K (a.put (some N) v) W) (hd : o.dst = some N := by rfl) (hw : Region.wanted o (yielded ops a.tmps) = true := by rfl) : if Region.wanted o (yielded ops a.tmps) = true then Oper.wp P o a W K Q else K (a.put o.dst undef) W := by
  have h := value_ (P := P) (ops := ops) (Q := Q) hw hd hrun hK
  rwa [hd]
theorem fa_ {bytes m c : Nat} {t : TypeId} {z v : Value} {s x : Operand} {xs ys : List α} {A : Option Addr} (hO : d.R e W w0.heap.size (fun _ => True) v xs) (hC : Kd.C d W A m ys) (HB : Below w0.heap.size w0 W) (hs : a.eval s = v) (hx : a.eval x = .slice A m c) (hl : (xs.length + m) * bytes ≤ 140737488355328)
    (hK : ∀ v1 W', d.R e W' w0.heap.size (fun _ => True) v1 (xs ++ ys) → Ch w0 [e] W W' → K (a.put o.dst v1) W') (hKM : ∀ W W' base ok y ds, d.K W y ds → d.M W' base ok y ds) (ht : P.underlying t = some (.slice e)) (hinfo : (P.info? e).map (fun i => (i.zero, i.size, i.bytes)) = some (some z, d.sz, bytes))
    (ho : o.op = .call { callee := .builtin .append, args := #[s, x], argTypes := #[t, t] } := by rfl) (hz : z.cells.size = d.sz := by rfl) (hs0 : 0 < d.sz := by decide) (hb0 : 0 < bytes := by decide) (hw : Region.wanted o (yielded ops a.tmps) = true := by rfl) : if Region.wanted o (yielded ops a.tmps) = true then Oper.wp P o a W K Q else K (a.put o.dst undef) W :=
  Kd.R_append_rows_step d (w0 := w0) w0.heap.size hw s x t e z bytes ho ht hinfo hz hs0 hb0 v xs ys A m c (fun _ => True) (fun _ => False) hs hx hO hC (fun y ds h => hKM _ _ _ _ y ds h) (fun _ h => h.elim) (fun _ _ => trivial) HB HB.size hl (fun v1 w1 h1 h2 hg _ => hK v1 w1 h1 (Ch.grown hg (fun _ => h2) (fun j cs t hj ht => Kd.R_ne hO hj (fun he => ht (by rw [he]; exact List.mem_singleton_self _)))))
theorem fz_ {g : Nat} {t : TypeId} {zs : Array Value} {v0 v1 v2 v3 : Value} {p x : Operand} (hb : W.heap[g]? = some (.cells zs t (0, 0))) (h1 : v0.oneCell' = true ∧ v1.oneCell' = true ∧ v2.oneCell' = true ∧ v3.oneCell' = true) (haddr : a.eval p = .pointer (some ⟨g, 0, none⟩)) (hx : a.eval x = .agg #[v0, v1, v2, v3])
    (hK : K a (W.setCells g 0 [v0, v1, v2, v3])) (ho : o.op = .store t p x := by rfl) (hz : zs.size = 4 := by rfl) (ht : (P.info? t).map (·.size) = some 4 := by rfl) (hN : o.dst = none := by rfl) (hw : Region.wanted o (yielded ops a.tmps) = true := by rfl) : if Region.wanted o (yielded ops a.tmps) = true then Oper.wp P o a W K Q else K (a.put o.dst undef) W := by
  have hrun := run_store_run (P := P) (o := 0) t (.agg #[v0, v1, v2, v3]) [v0, v1, v2, v3] hb rfl ht (by rw [hz]; exact Nat.le_refl 4) (fun q hq => one4 h1 hq)
  have h := skip_ (P := P) (ops := ops) (Q := Q) (K := K) hw hN (w1 := W.setCells g 0 [v0, v1, v2, v3]) (by simp only [execOp, ho, haddr, hx]; rw [Sem.run_bind, hrun]; rfl) hK
  rwa [hN]
theorem R_sets4 {base g t o : Nat} {ok : Nat → Prop} {v : Value} {xs : List α} {cs : Array Value} {seg : List Value} (h : d.R e W base ok v xs) (hb : W.heap[g]? = some (.cells cs t (0, 0))) (ht : t ∉ e :: d.E) : d.R e (W.setCells g o seg) base ok v xs := by
  refine Kd.R_mono (Kd.R_step (Kd.R_bound h) (fun k hk hlt => setCells_far seg o k (fun he => ?_))) (fun _ hk => hk.1)
  obtain ⟨_, _, _, q, hq, cs', hc⟩ := hk
  subst he; rw [hb] at hc; injection hc with hc; injection hc with _ hc; exact ht (hc ▸ hq)
theorem below_sets {g o : Nat} {seg : List Value} (h : Below w0.heap.size w0 W) (hg : w0.heap.size ≤ g) : Below w0.heap.size w0 (W.setCells g o seg) := by
  obtain ⟨k1, k2, k3, k4⟩ := setCells_same g seg o W
  exact h.trans ⟨k1, k2, k3, Nat.le_of_eq k4.symm, fun k hk => setCells_far _ o k (by omega)⟩
theorem getD_of {tmps : Array Value} {p : Nat} {v u : Value} (h : tmps[p]? = some v) : tmps.getD p u = v := by simp [Array.getD_eq_getD_getElem?, h]
end
end Go.Proofs.YtbanogkoaplcdaaGreat.Reg14
