/- Parts of the proof of FnExactDoAct, one behind the other. No condition. -/
import Derived.Test.YtbanogkoaplcdaaVFnExactDoActM16
namespace Go.Proofs.Ytbanogkoaplcdaa.QDo
open Go.RowKit Go.Proofs.Ytbanogkoaplcdaa.Reg11 Go.Proofs.Ytbanogkoaplcdaa.Reg10 Go.Proofs.Ytbanogkoaplcdaa.Reg9 Go.Proofs.Ytbanogkoaplcdaa.Lock Go.Proofs.Ytbanogkoaplcdaa.Auto Go.Proofs.Ytbanogkoaplcdaa.Short Go.Proofs.YtbanogkoaplcdaaW.PrintWords Go.Proofs.YtbanogkoaplcdaaW.PrintLast Go.Proofs.YtbanogkoaplcdaaW.PrintMore
set_option linter.unusedVariables false
structure Rw (w W : World) (lo hi : Nat) (s0 s1 s2 s3 : Value) (l0 : List Int) (l1 : List S84) (l2 : List S86) (l3 : List S73) : Prop where
  r0 : Kd.R (Kd.int .i64) 3 W w.heap.size (fun k => lo ≤ k ∧ k < hi) s0 l0
  r1 : Kd.R k84 84 W w.heap.size (fun k => lo ≤ k ∧ k < hi) s1 l1
  r2 : Kd.R k86 86 W w.heap.size (fun k => lo ≤ k ∧ k < hi) s2 l2
  r3 : Kd.R k73 73 W w.heap.size (fun k => lo ≤ k ∧ k < hi) s3 l3
  le : hi ≤ W.heap.size
theorem rowI {α : Type} {d : Kd α} {e : Nat} {w Wc W : World} {v : Value} {xs : List α} (h : d.R e W Wc.heap.size (fun _ => True) v xs) (hw : w.heap.size ≤ Wc.heap.size) : d.R e W w.heap.size (fun k => Wc.heap.size ≤ k ∧ k < W.heap.size) v xs := Kd.R_mono (Kd.R_lower (Kd.R_bound h) hw) (fun _ hk => ⟨hk.2.1, hk.2.2.1⟩)
theorem R_setsT {α : Type} {d : Kd α} {e base g t o : Nat} {ok : Nat → Prop} {W : World} {v : Value} {xs : List α} {cs : Array Value} {seg : List Value} (h : d.R e W base ok v xs) (hb : W.heap[g]? = some (.cells cs t (0, 0))) (ht : t ∉ e :: d.E) : d.R e (W.setCells g o seg) base ok v xs := by
 refine Kd.R_mono (Kd.R_step (Kd.R_bound h) (fun k hk hlt => setCells_far seg o k (fun he => ?_))) (fun _ hk => hk.1)
 obtain ⟨_, _, _, q, hq, cs', hc⟩ := hk
 subst he; rw [hb] at hc; injection hc with hc; injection hc with _ hc; exact ht (hc ▸ hq)
namespace Rw
variable {w W W' : World} {lo hi lo' hi' : Nat} {s0 s1 s2 s3 : Value} {l0 l0' : List Int} {l1 l1' : List S84} {l2 l2' : List S86} {l3 l3' : List S73}
theorem of {Wc : World} (h0 : Kd.R (Kd.int .i64) 3 W Wc.heap.size (fun _ => True) s0 l0) (h1 : Kd.R k84 84 W Wc.heap.size (fun _ => True) s1 l1) (h2 : Kd.R k86 86 W Wc.heap.size (fun _ => True) s2 l2) (h3 : Kd.R k73 73 W Wc.heap.size (fun _ => True) s3 l3) (hw : w.heap.size ≤ Wc.heap.size) : Rw w W Wc.heap.size W.heap.size s0 s1 s2 s3 l0 l1 l2 l3 := ⟨rowI h0 hw, rowI h1 hw, rowI h2 hw, rowI h3 hw, Nat.le_refl _⟩
theorem below (h : Rw w W lo hi s0 s1 s2 s3 l0 l1 l2 l3) (hb : Below W.heap.size W W') : Rw w W' lo hi s0 s1 s2 s3 l0 l1 l2 l3 := ⟨Kd.R_below h.r0 hb, Kd.R_below h.r1 hb, Kd.R_below h.r2 hb, Kd.R_below h.r3 hb, Nat.le_trans h.le hb.size⟩
theorem sets {g : Nat} {cs : Array Value} {seg : List Value} (h : Rw w W lo hi s0 s1 s2 s3 l0 l1 l2 l3) (hb : W.heap[g]? = some (.cells cs 36 (0, 0))) : Rw w (W.setCells g 0 seg) lo hi s0 s1 s2 s3 l0 l1 l2 l3 := ⟨R_setsT h.r0 hb (by decide), R_setsT h.r1 hb (by decide), R_setsT h.r2 hb (by decide), R_setsT h.r3 hb (by decide), by rw [(setCells_same g seg 0 W).2.2.2]; exact h.le⟩
theorem shape (h : Rw w W lo hi s0 s1 s2 s3 l0 l1 l2 l3) : ∃ A0 A1 A2 A3 c0 c1 c2 c3, s0 = .slice A0 l0.length c0 ∧ s1 = .slice A1 l1.length c1 ∧ s2 = .slice A2 l2.length c2 ∧ s3 = .slice A3 l3.length c3 := by
 obtain ⟨A0, c0, e0⟩ := Kd.R_slice h.r0
 obtain ⟨A1, c1, e1⟩ := Kd.R_slice h.r1
 obtain ⟨A2, c2, e2⟩ := Kd.R_slice h.r2
 obtain ⟨A3, c3, e3⟩ := Kd.R_slice h.r3
 exact ⟨A0, A1, A2, A3, c0, c1, c2, c3, e0, e1, e2, e3⟩
def S (s0 s1 s2 s3 : Value) (k : Nat) : Prop := some k = s0.ownBlock ∨ some k = s1.ownBlock ∨ some k = s2.ownBlock ∨ some k = s3.ownBlock
theorem inS (h : Rw w W lo hi s0 s1 s2 s3 l0 l1 l2 l3) (k : Nat) (hk : S s0 s1 s2 s3 k) : lo ≤ k ∧ k < hi := by
 rcases hk with hk | hk | hk | hk
 ·
  exact h.r0.1 k hk.symm
 ·
  exact h.r1.1 k hk.symm
 ·
  exact h.r2.1 k hk.symm
 ·
  exact h.r3.1 k hk.symm
theorem notS (h : Rw w W lo hi s0 s1 s2 s3 l0 l1 l2 l3) {g t : Nat} {cs : Array Value} (hb : W.heap[g]? = some (.cells cs t (0, 0))) (ht : t ∉ [3, 84, 86, 73]) : ¬ S s0 s1 s2 s3 g := by
 rintro (hk | hk | hk | hk)
 ·
  exact Kd.R_ne h.r0 hb (fun he => ht (he ▸ by decide)) hk
 ·
  exact Kd.R_ne h.r1 hb (fun he => ht (he ▸ by decide)) hk
 ·
  exact Kd.R_ne h.r2 hb (fun he => ht (he ▸ by decide)) hk
 ·
  exact Kd.R_ne h.r3 hb (fun he => ht (he ▸ by decide)) hk
theorem kept {T : Nat → Prop} (h : Rw w W lo hi s0 s1 s2 s3 l0 l1 l2 l3) (hk : Kept W W' T) (hT : ∀ k, T k → k < lo ∨ hi ≤ k) : Rw w W' lo hi s0 s1 s2 s3 l0 l1 l2 l3 :=
 have hn : ∀ k, lo ≤ k ∧ k < hi → ¬ T k := fun k hk ht => by have := hT k ht; omega
 ⟨Kd.R_kept h.r0 hk hn, Kd.R_kept h.r1 hk hn, Kd.R_kept h.r2 hk hn, Kd.R_kept h.r3 hk hn, Nat.le_trans h.le hk.1⟩
theorem marked {o0 o1 o2 o3 : Nat → Prop} (h : Rw w W lo hi s0 s1 s2 s3 l0 l1 l2 l3) (hs : W.heap.size ≤ W'.heap.size) (h0 : Kd.R (Kd.int .i64) 3 W' w.heap.size o0 s0 l0') (h1 : Kd.R k84 84 W' w.heap.size o1 s1 l1') (h2 : Kd.R k86 86 W' w.heap.size o2 s2 l2') (h3 : Kd.R k73 73 W' w.heap.size o3 s3 l3') : Rw w W' lo hi s0 s1 s2 s3 l0' l1' l2' l3' :=
 ⟨Kd.R_reok rfl h0 h.r0.1, Kd.R_reok rfl h1 h.r1.1, Kd.R_reok rfl h2 h.r2.1, Kd.R_reok rfl h3 h.r3.1, Nat.le_trans h.le hs⟩
theorem one (h : Rw w W lo hi s0 s1 s2 s3 l0 l1 l2 l3) : s0.oneCell' = true ∧ s1.oneCell' = true ∧ s2.oneCell' = true ∧ s3.oneCell' = true := by
 obtain ⟨A0, A1, A2, A3, c0, c1, c2, c3, rfl, rfl, rfl, rfl⟩ := h.shape
 exact ⟨rfl, rfl, rfl, rfl⟩
end Rw
end Go.Proofs.Ytbanogkoaplcdaa.QDo
