/- Parts of the proof of FnExactDoAll, one behind the other. No condition. -/
import Derived.Test.YtbanogkoaplcdaaGreatVFnExactDoAllM1
import Derived.Test.YtbanogkoaplcdaaGreatVFnExactDoAllM2
namespace Go.Proofs.YtbanogkoaplcdaaGreat.QDa
open Go.RowKit Go.Proofs.YtbanogkoaplcdaaGreat.Reg10 Go.Proofs.YtbanogkoaplcdaaGreat.Reg9 Go.Proofs.YtbanogkoaplcdaaGreat.Lock Go.Proofs.YtbanogkoaplcdaaGreat.Auto Go.Proofs.YtbanogkoaplcdaaGreat.Short Go.Proofs.YtbanogkoaplcdaaGreatW.PrintWords Go.Proofs.YtbanogkoaplcdaaGreatW.PrintLast Go.Proofs.YtbanogkoaplcdaaGreatW.PrintMore
set_option linter.unusedVariables false
def Fr (we W : World) (g : Nat) : Prop := ∀ j cs t, j ≠ g → we.heap[j]? = some (.cells cs t (0, 0)) → t ∉ [3, 90, 93, 96] → W.heap[j]? = some (.cells cs t (0, 0))
structure St (w we W : World) (g : Nat) (s0 s1 s2 s3 : Value) (l0 : List Int) (l1 : List S90) (l2 : List S93) (l3 : List S96) : Prop where
  blk : W.heap[g]? = some (.cells #[s0, s1, s2, s3] 35 (0, 0))
  r0 : Kd.R (Kd.int .i64) 3 W w.heap.size (fun _ => True) s0 l0
  r1 : Kd.R k90 90 W w.heap.size (fun _ => True) s1 l1
  r2 : Kd.R k93 93 W w.heap.size (fun _ => True) s2 l2
  r3 : Kd.R k96 96 W w.heap.size (fun _ => True) s3 l3
  hb : Below w.heap.size w W
  hg : w.heap.size ≤ g
  fr : Fr we W g
namespace St
variable {w we W W' : World} {g : Nat} {s0 s1 s2 s3 : Value} {l0 : List Int} {l1 : List S90} {l2 : List S93} {l3 : List S96}
theorem below (h : St w we W g s0 s1 s2 s3 l0 l1 l2 l3) (hb : Below W.heap.size W W') : St w we W' g s0 s1 s2 s3 l0 l1 l2 l3 := ⟨blk_below h.blk hb, Kd.R_below h.r0 hb, Kd.R_below h.r1 hb, Kd.R_below h.r2 hb, Kd.R_below h.r3 hb, below_step h.hb hb, h.hg, fun j cs t hj hc ht => blk_below (h.fr j cs t hj hc ht) hb⟩
theorem drew (h : St w we W g s0 s1 s2 s3 l0 l1 l2 l3) : St w we W.drew g s0 s1 s2 s3 l0 l1 l2 l3 := h.below (below_drew (Below.refl _ _))
theorem but1 {s1' : Value} {l1' : List S90} (h : St w we W g s0 s1 s2 s3 l0 l1 l2 l3) (hk : KeepBut W W' g s1.ownBlock) (hB : Below w.heap.size W W') (hblk : W'.heap[g]? = some (.cells #[s0, s1', s2, s3] 35 (0, 0))) (hr : Kd.R k90 90 W' w.heap.size (fun _ => True) s1' l1') : St w we W' g s0 s1' s2 s3 l0 l1' l2 l3 :=
  ⟨hblk, R_but h.r0 hk h.blk (by decide) (rowT h.r1 (by decide)), hr, R_but h.r2 hk h.blk (by decide) (rowT h.r1 (by decide)), R_but h.r3 hk h.blk (by decide) (rowT h.r1 (by decide)), h.hb.trans hB, h.hg, fun j cs t hj hc ht => hk.blk (h.fr j cs t hj hc ht) hj (Kd.R_ne h.r1 (h.fr j cs t hj hc ht) (fun he => ht (he ▸ by decide)))⟩
theorem but2 {s2' : Value} {l2' : List S93} (h : St w we W g s0 s1 s2 s3 l0 l1 l2 l3) (hk : KeepBut W W' g none) (hB : Below w.heap.size W W') (hblk : W'.heap[g]? = some (.cells #[s0, s1, s2', s3] 35 (0, 0))) (hr : Kd.R k93 93 W' W.heap.size (fun _ => True) s2' l2') : St w we W' g s0 s1 s2' s3 l0 l1 l2' l3 :=
  ⟨hblk, R_but h.r0 hk h.blk (by decide) noRow, R_but h.r1 hk h.blk (by decide) noRow, Kd.R_lower hr h.hb.size, R_but h.r3 hk h.blk (by decide) noRow, h.hb.trans hB, h.hg, fun j cs t hj hc ht => hk.blk (h.fr j cs t hj hc ht) hj (by simp)⟩
theorem set1 {v : Value} {l1' : List S90} (h : St w we W g s0 s1 s2 s3 l0 l1 l2 l3) (hr : Kd.R k90 90 W w.heap.size (fun _ => True) v l1') : St w we (W.setCell ⟨g, 1, none⟩ v) g s0 v s2 s3 l0 l1' l2 l3 :=
  ⟨bp4_1 h.blk, R_setT h.r0 h.blk (by decide) rfl _, R_setT hr h.blk (by decide) rfl _, R_setT h.r2 h.blk (by decide) rfl _, R_setT h.r3 h.blk (by decide) rfl _, below_set h.hb h.hg, h.hg, fun j cs t hj hc ht => (Below.heap_setCell W _ _ j hj).trans (h.fr j cs t hj hc ht)⟩
theorem set2 {v : Value} {l2' : List S93} (h : St w we W g s0 s1 s2 s3 l0 l1 l2 l3) (hr : Kd.R k93 93 W w.heap.size (fun _ => True) v l2') : St w we (W.setCell ⟨g, 2, none⟩ v) g s0 s1 v s3 l0 l1 l2' l3 :=
  ⟨bp4_2 h.blk, R_setT h.r0 h.blk (by decide) rfl _, R_setT h.r1 h.blk (by decide) rfl _, R_setT hr h.blk (by decide) rfl _, R_setT h.r3 h.blk (by decide) rfl _, below_set h.hb h.hg, h.hg, fun j cs t hj hc ht => (Below.heap_setCell W _ _ j hj).trans (h.fr j cs t hj hc ht)⟩
theorem set3 {v : Value} {l3' : List S96} (h : St w we W g s0 s1 s2 s3 l0 l1 l2 l3) (hr : Kd.R k96 96 W w.heap.size (fun _ => True) v l3') : St w we (W.setCell ⟨g, 3, none⟩ v) g s0 s1 s2 v l0 l1 l2 l3' :=
  ⟨bp4_3 h.blk, R_setT h.r0 h.blk (by decide) rfl _, R_setT h.r1 h.blk (by decide) rfl _, R_setT h.r2 h.blk (by decide) rfl _, R_setT hr h.blk (by decide) rfl _, below_set h.hb h.hg, h.hg, fun j cs t hj hc ht => (Below.heap_setCell W _ _ j hj).trans (h.fr j cs t hj hc ht)⟩
theorem sto0 {b : Nat} {l0' : List Int} (h : St w we W g s0 s1 s2 s3 l0 l1 l2 l3) (hs : s0.ownBlock = some b) (hg : W.grownBy W' (some b)) (hr : Kd.R (Kd.int .i64) 3 W' w.heap.size (fun _ => True) s0 l0') : St w we W' g s0 s1 s2 s3 l0' l1 l2 l3 :=
  ⟨blk_grown h.blk hg (hs ▸ Kd.R_ne h.r0 h.blk (by decide)), hr, Kd.R_over h.r1 h.r0 (by decide) (hs ▸ hg), Kd.R_over h.r2 h.r0 (by decide) (hs ▸ hg), Kd.R_over h.r3 h.r0 (by decide) (hs ▸ hg), below_grow h.hb hg (Kd.R_base h.r0 b hs) h.hb.size, h.hg, fun j cs t hj hc ht => blk_grown (h.fr j cs t hj hc ht) hg (hs ▸ Kd.R_ne h.r0 (h.fr j cs t hj hc ht) (fun he => ht (he ▸ by decide)))⟩
theorem sto3 {b : Nat} {l3' : List S96} (h : St w we W g s0 s1 s2 s3 l0 l1 l2 l3) (hs : s3.ownBlock = some b) (hg : W.grownBy W' (some b)) (hr : Kd.R k96 96 W' w.heap.size (fun _ => True) s3 l3') : St w we W' g s0 s1 s2 s3 l0 l1 l2 l3' :=
  ⟨blk_grown h.blk hg (hs ▸ Kd.R_ne h.r3 h.blk (by decide)), Kd.R_over h.r0 h.r3 (by decide) (hs ▸ hg), Kd.R_over h.r1 h.r3 (by decide) (hs ▸ hg), Kd.R_over h.r2 h.r3 (by decide) (hs ▸ hg), hr, below_grow h.hb hg (Kd.R_base h.r3 b hs) h.hb.size, h.hg, fun j cs t hj hc ht => blk_grown (h.fr j cs t hj hc ht) hg (hs ▸ Kd.R_ne h.r3 (h.fr j cs t hj hc ht) (fun he => ht (he ▸ by decide)))⟩
theorem re (h : St w we W g s0 s1 s2 s3 l0 l1 l2 l3) : St w W W g s0 s1 s2 s3 l0 l1 l2 l3 := ⟨h.blk, h.r0, h.r1, h.r2, h.r3, h.hb, h.hg, fun _ _ _ _ hc _ => hc⟩
theorem shape (h : St w we W g s0 s1 s2 s3 l0 l1 l2 l3) : ∃ A0 A1 A2 A3 c0 c1 c2 c3, s0 = .slice A0 l0.length c0 ∧ s1 = .slice A1 l1.length c1 ∧ s2 = .slice A2 l2.length c2 ∧ s3 = .slice A3 l3.length c3 := by
  obtain ⟨A0, c0, e0⟩ := Kd.R_slice h.r0
  obtain ⟨A1, c1, e1⟩ := Kd.R_slice h.r1
  obtain ⟨A2, c2, e2⟩ := Kd.R_slice h.r2
  obtain ⟨A3, c3, e3⟩ := Kd.R_slice h.r3
  exact ⟨A0, A1, A2, A3, c0, c1, c2, c3, e0, e1, e2, e3⟩
end St
structure Kp (w W : World) (N g : Nat) (s0 s1 s2 s3 : Value) (l0 : List Int) (l1 : List S90) (l2 : List S93) (l3 : List S96) : Prop where
  blk : W.heap[g]? = some (.cells #[s0, s1, s2, s3] 35 (0, 0))
  r0 : Kd.R (Kd.int .i64) 3 W w.heap.size (fun k => k < N) s0 l0
  r1 : Kd.R k90 90 W w.heap.size (fun k => k < N) s1 l1
  r2 : Kd.R k93 93 W w.heap.size (fun k => k < N) s2 l2
  r3 : Kd.R k96 96 W w.heap.size (fun k => k < N) s3 l3
  le : N ≤ W.heap.size
namespace Kp
variable {w W W' : World} {N g : Nat} {s0 s1 s2 s3 : Value} {l0 : List Int} {l1 : List S90} {l2 : List S93} {l3 : List S96}
theorem mk' (hb : W.heap[g]? = some (.cells #[s0, s1, s2, s3] 35 (0, 0))) (h0 : Kd.R (Kd.int .i64) 3 W w.heap.size (fun _ => True) s0 l0) (h1 : Kd.R k90 90 W w.heap.size (fun _ => True) s1 l1) (h2 : Kd.R k93 93 W w.heap.size (fun _ => True) s2 l2) (h3 : Kd.R k96 96 W w.heap.size (fun _ => True) s3 l3) : Kp w W W.heap.size g s0 s1 s2 s3 l0 l1 l2 l3 :=
  ⟨hb, Kd.R_mono (Kd.R_bound h0) (fun _ hk => hk.2.2.1), Kd.R_mono (Kd.R_bound h1) (fun _ hk => hk.2.2.1), Kd.R_mono (Kd.R_bound h2) (fun _ hk => hk.2.2.1), Kd.R_mono (Kd.R_bound h3) (fun _ hk => hk.2.2.1), Nat.le_refl _⟩
theorem below (h : Kp w W N g s0 s1 s2 s3 l0 l1 l2 l3) (hb : Below W.heap.size W W') : Kp w W' N g s0 s1 s2 s3 l0 l1 l2 l3 := ⟨blk_below h.blk hb, Kd.R_below h.r0 hb, Kd.R_below h.r1 hb, Kd.R_below h.r2 hb, Kd.R_below h.r3 hb, Nat.le_trans h.le hb.size⟩
theorem drew (h : Kp w W N g s0 s1 s2 s3 l0 l1 l2 l3) : Kp w W.drew N g s0 s1 s2 s3 l0 l1 l2 l3 := h.below (below_drew (Below.refl _ _))
theorem grown {b : Nat} (h : Kp w W N g s0 s1 s2 s3 l0 l1 l2 l3) (hg : W.grownBy W' (some b)) (hN : N ≤ b) (hne : some g ≠ some b) : Kp w W' N g s0 s1 s2 s3 l0 l1 l2 l3 :=
  have hk : ∀ k, k < N → some k ≠ some b := fun k hk he => by injection he with he; omega
  ⟨blk_grown h.blk hg hne, Kd.R_step h.r0 (fun k ho hlt => hg.block k hlt (hk k ho)), Kd.R_step h.r1 (fun k ho hlt => hg.block k hlt (hk k ho)), Kd.R_step h.r2 (fun k ho hlt => hg.block k hlt (hk k ho)), Kd.R_step h.r3 (fun k ho hlt => hg.block k hlt (hk k ho)), Nat.le_trans h.le hg.size⟩
theorem set {g' j : Nat} {v : Value} (h : Kp w W N g s0 s1 s2 s3 l0 l1 l2 l3) (hN : N ≤ g') (hne : g ≠ g') : Kp w (W.setCell ⟨g', j, none⟩ v) N g s0 s1 s2 s3 l0 l1 l2 l3 :=
  have hk : ∀ k, k < N → k ≠ g' := fun k hk => by omega
  ⟨(Below.heap_setCell W _ _ g hne).trans h.blk, Kd.R_step h.r0 (fun k ho _ => Below.heap_setCell W _ _ k (hk k ho)), Kd.R_step h.r1 (fun k ho _ => Below.heap_setCell W _ _ k (hk k ho)), Kd.R_step h.r2 (fun k ho _ => Below.heap_setCell W _ _ k (hk k ho)), Kd.R_step h.r3 (fun k ho _ => Below.heap_setCell W _ _ k (hk k ho)), by simpa [World.setCell] using h.le⟩
end Kp
end Go.Proofs.YtbanogkoaplcdaaGreat.QDa
namespace Go.Proofs.YtbanogkoaplcdaaGreat.QDa
open Go.RowKit Go.Proofs.YtbanogkoaplcdaaGreat.Reg11 Go.Proofs.YtbanogkoaplcdaaGreat.Reg10 Go.Proofs.YtbanogkoaplcdaaGreat.Reg9 Go.Proofs.YtbanogkoaplcdaaGreat.Lock Go.Proofs.YtbanogkoaplcdaaGreat.Auto Go.Proofs.YtbanogkoaplcdaaGreat.Short Go.Proofs.YtbanogkoaplcdaaGreatW.PrintWords Go.Proofs.YtbanogkoaplcdaaGreatW.PrintLast Go.Proofs.YtbanogkoaplcdaaGreatW.PrintMore
set_option linter.unusedVariables false
structure Rw (w W : World) (lo hi : Nat) (s0 s1 s2 s3 : Value) (l0 : List Int) (l1 : List S90) (l2 : List S93) (l3 : List S96) : Prop where
  r0 : Kd.R (Kd.int .i64) 3 W w.heap.size (fun k => lo ≤ k ∧ k < hi) s0 l0
  r1 : Kd.R k90 90 W w.heap.size (fun k => lo ≤ k ∧ k < hi) s1 l1
  r2 : Kd.R k93 93 W w.heap.size (fun k => lo ≤ k ∧ k < hi) s2 l2
  r3 : Kd.R k96 96 W w.heap.size (fun k => lo ≤ k ∧ k < hi) s3 l3
  le : hi ≤ W.heap.size
theorem rowI {α : Type} {d : Kd α} {e : Nat} {w Wc W : World} {v : Value} {xs : List α} (h : d.R e W Wc.heap.size (fun _ => True) v xs) (hw : w.heap.size ≤ Wc.heap.size) : d.R e W w.heap.size (fun k => Wc.heap.size ≤ k ∧ k < W.heap.size) v xs := Kd.R_mono (Kd.R_lower (Kd.R_bound h) hw) (fun _ hk => ⟨hk.2.1, hk.2.2.1⟩)
theorem R_setsT {α : Type} {d : Kd α} {e base g t o : Nat} {ok : Nat → Prop} {W : World} {v : Value} {xs : List α} {cs : Array Value} {seg : List Value} (h : d.R e W base ok v xs) (hb : W.heap[g]? = some (.cells cs t (0, 0))) (ht : t ∉ e :: d.E) : d.R e (W.setCells g o seg) base ok v xs := by
  refine Kd.R_mono (Kd.R_step (Kd.R_bound h) (fun k hk hlt => setCells_far seg o k (fun he => ?_))) (fun _ hk => hk.1)
  obtain ⟨_, _, _, q, hq, cs', hc⟩ := hk
  subst he; rw [hb] at hc; injection hc with hc; injection hc with _ hc; exact ht (hc ▸ hq)
namespace Rw
variable {w W W' : World} {lo hi lo' hi' : Nat} {s0 s1 s2 s3 : Value} {l0 l0' : List Int} {l1 l1' : List S90} {l2 l2' : List S93} {l3 l3' : List S96}
theorem of {Wc : World} (h0 : Kd.R (Kd.int .i64) 3 W Wc.heap.size (fun _ => True) s0 l0) (h1 : Kd.R k90 90 W Wc.heap.size (fun _ => True) s1 l1) (h2 : Kd.R k93 93 W Wc.heap.size (fun _ => True) s2 l2) (h3 : Kd.R k96 96 W Wc.heap.size (fun _ => True) s3 l3) (hw : w.heap.size ≤ Wc.heap.size) : Rw w W Wc.heap.size W.heap.size s0 s1 s2 s3 l0 l1 l2 l3 := ⟨rowI h0 hw, rowI h1 hw, rowI h2 hw, rowI h3 hw, Nat.le_refl _⟩
theorem below (h : Rw w W lo hi s0 s1 s2 s3 l0 l1 l2 l3) (hb : Below W.heap.size W W') : Rw w W' lo hi s0 s1 s2 s3 l0 l1 l2 l3 := ⟨Kd.R_below h.r0 hb, Kd.R_below h.r1 hb, Kd.R_below h.r2 hb, Kd.R_below h.r3 hb, Nat.le_trans h.le hb.size⟩
theorem sets {g : Nat} {cs : Array Value} {seg : List Value} (h : Rw w W lo hi s0 s1 s2 s3 l0 l1 l2 l3) (hb : W.heap[g]? = some (.cells cs 35 (0, 0))) : Rw w (W.setCells g 0 seg) lo hi s0 s1 s2 s3 l0 l1 l2 l3 := ⟨R_setsT h.r0 hb (by decide), R_setsT h.r1 hb (by decide), R_setsT h.r2 hb (by decide), R_setsT h.r3 hb (by decide), by rw [(setCells_same g seg 0 W).2.2.2]; exact h.le⟩
theorem shape (h : Rw w W lo hi s0 s1 s2 s3 l0 l1 l2 l3) : ∃ A0 A1 A2 A3 c0 c1 c2 c3, s0 = .slice A0 l0.length c0 ∧ s1 = .slice A1 l1.length c1 ∧ s2 = .slice A2 l2.length c2 ∧ s3 = .slice A3 l3.length c3 := by
  obtain ⟨A0, c0, e0⟩ := Kd.R_slice h.r0
  obtain ⟨A1, c1, e1⟩ := Kd.R_slice h.r1
  obtain ⟨A2, c2, e2⟩ := Kd.R_slice h.r2
  obtain ⟨A3, c3, e3⟩ := Kd.R_slice h.r3
  exact ⟨A0, A1, A2, A3, c0, c1, c2, c3, e0, e1, e2, e3⟩
def S (s0 s1 s2 s3 : Value) (k : Nat) : Prop := some k = s0.ownBlock ∨ some k = s1.ownBlock ∨ some k = s2.ownBlock ∨ some k = s3.ownBlock
theorem inS (h : Rw w W lo hi s0 s1 s2 s3 l0 l1 l2 l3) (k : Nat) (hk : S s0 s1 s2 s3 k) : lo ≤ k ∧ k < hi := by
  rcases hk with hk | hk | hk | hk
  · exact h.r0.1 k hk.symm
  · exact h.r1.1 k hk.symm
  · exact h.r2.1 k hk.symm
  · exact h.r3.1 k hk.symm
theorem notS (h : Rw w W lo hi s0 s1 s2 s3 l0 l1 l2 l3) {g t : Nat} {cs : Array Value} (hb : W.heap[g]? = some (.cells cs t (0, 0))) (ht : t ∉ [3, 90, 93, 96]) : ¬ S s0 s1 s2 s3 g := by
  rintro (hk | hk | hk | hk)
  · exact Kd.R_ne h.r0 hb (fun he => ht (he ▸ by decide)) hk
  · exact Kd.R_ne h.r1 hb (fun he => ht (he ▸ by decide)) hk
  · exact Kd.R_ne h.r2 hb (fun he => ht (he ▸ by decide)) hk
  · exact Kd.R_ne h.r3 hb (fun he => ht (he ▸ by decide)) hk
theorem kept {T : Nat → Prop} (h : Rw w W lo hi s0 s1 s2 s3 l0 l1 l2 l3) (hk : Kept W W' T) (hT : ∀ k, T k → k < lo ∨ hi ≤ k) : Rw w W' lo hi s0 s1 s2 s3 l0 l1 l2 l3 :=
  have hn : ∀ k, lo ≤ k ∧ k < hi → ¬ T k := fun k hk ht => by have := hT k ht; omega
  ⟨Kd.R_kept h.r0 hk hn, Kd.R_kept h.r1 hk hn, Kd.R_kept h.r2 hk hn, Kd.R_kept h.r3 hk hn, Nat.le_trans h.le hk.1⟩
theorem marked {o0 o1 o2 o3 : Nat → Prop} (h : Rw w W lo hi s0 s1 s2 s3 l0 l1 l2 l3) (hs : W.heap.size ≤ W'.heap.size) (h0 : Kd.R (Kd.int .i64) 3 W' w.heap.size o0 s0 l0') (h1 : Kd.R k90 90 W' w.heap.size o1 s1 l1') (h2 : Kd.R k93 93 W' w.heap.size o2 s2 l2') (h3 : Kd.R k96 96 W' w.heap.size o3 s3 l3') : Rw w W' lo hi s0 s1 s2 s3 l0' l1' l2' l3' :=
  ⟨Kd.R_reok rfl h0 h.r0.1, Kd.R_reok rfl h1 h.r1.1, Kd.R_reok rfl h2 h.r2.1, Kd.R_reok rfl h3 h.r3.1, Nat.le_trans h.le hs⟩
theorem one (h : Rw w W lo hi s0 s1 s2 s3 l0 l1 l2 l3) : s0.oneCell' = true ∧ s1.oneCell' = true ∧ s2.oneCell' = true ∧ s3.oneCell' = true := by
  obtain ⟨A0, A1, A2, A3, c0, c1, c2, c3, rfl, rfl, rfl, rfl⟩ := h.shape
  exact ⟨rfl, rfl, rfl, rfl⟩
end Rw
end Go.Proofs.YtbanogkoaplcdaaGreat.QDa
