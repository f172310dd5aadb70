/- Parts of the proof of FnExactDoAll, one behind the other. No condition. -/
import Derived.Test.YtbanogkoaplcdaaGreatVFnExactDoAllM16
namespace Go.Proofs.YtbanogkoaplcdaaGreat.QDa
open Go.RowKit Go.Proofs.YtbanogkoaplcdaaGreat.Reg14 Go.Proofs.YtbanogkoaplcdaaGreat.Reg11 Go.Proofs.YtbanogkoaplcdaaGreat.Reg10 Go.Proofs.YtbanogkoaplcdaaGreat.Reg9 Go.Proofs.YtbanogkoaplcdaaGreat.Lock Go.Proofs.YtbanogkoaplcdaaGreat.Auto Go.Proofs.YtbanogkoaplcdaaGreat.Short Go.Proofs.YtbanogkoaplcdaaGreatW.PrintWords Go.Proofs.YtbanogkoaplcdaaGreatW.PrintLast Go.Proofs.YtbanogkoaplcdaaGreatW.PrintMore
set_option linter.unusedVariables false
abbrev Got := List Int × List S90 × List S93 × List S96 × Int
abbrev Gots := List Int × List S90 × List S93 × List S96 × List Int
abbrev DoF := Nat → List Int → List S90 → List S93 → List S96 → Int → Int → Int → List Int → Int → ByteArray → ByteArray → Int → Int → Int → Option Got
def DoF.at (d : DoF) (k : Nat) (q0 : List Int) (q1 : List S90) (q2 : List S93) (q3 : List S96) (y : S61) : Option Got := d k q0 q1 q2 q3 y.f0.f0 y.f0.f1 y.f1 y.f2 y.f3 y.f4 y.f5 y.f6 y.f7.f0 y.f7.f1
def da0 (d : DoF) : Nat → List S61 → Int → List Int → List S90 → List S93 → List S96 → List Int → Option Gots
  | 0, _, _, _, _, _, _, _ => none
  | k + 1, l, i, q0, q1, q2, q3, c => if i < (l.length : Int) then (if 0 ≤ i then ((d.at k q0 q1 q2 q3 (rd_T61 l i)).bind fun r => (if c.length < 17592186044416 then da0 d k l (wrap64 (i + 1)) r.1 r.2.1 r.2.2.1 r.2.2.2.1 (c ++ [r.2.2.2.2]) else none)) else none) else some (q0, q1, q2, q3, c)
theorem St.all {w we W : World} {g lo hi : Nat} {s0 s1 s2 s3 v0 v1 v2 v3 : Value} {l0 m0 : List Int} {l1 m1 : List S90} {l2 m2 : List S93} {l3 m3 : List S96} (h : St w we W g s0 s1 s2 s3 l0 l1 l2 l3) (r : Rw w W lo hi v0 v1 v2 v3 m0 m1 m2 m3) : St w we (W.setCells g 0 [v0, v1, v2, v3]) g v0 v1 v2 v3 m0 m1 m2 m3 := by
  have r' := r.sets (seg := [v0, v1, v2, v3]) h.blk
  exact ⟨setCells_all h.blk rfl, Kd.R_mono r'.r0 (fun _ _ => trivial), Kd.R_mono r'.r1 (fun _ _ => trivial), Kd.R_mono r'.r2 (fun _ _ => trivial), Kd.R_mono r'.r3 (fun _ _ => trivial), below_sets h.hb h.hg, h.hg, fun j cs t hj hc ht => (setCells_far _ 0 j hj).trans (h.fr j cs t hj hc ht)⟩
theorem Rw.st {w we : World} {g lo hi : Nat} {v0 v1 v2 v3 : Value} {m0 : List Int} {m1 : List S90} {m2 : List S93} {m3 : List S96} (r : Rw w we lo hi v0 v1 v2 v3 m0 m1 m2 m3) (hb : we.heap[g]? = some (.cells #[v0, v1, v2, v3] 35 (0, 0))) (HB : Below w.heap.size w we) (hg : w.heap.size ≤ g) : St w we we g v0 v1 v2 v3 m0 m1 m2 m3 :=
  ⟨hb, Kd.R_mono r.r0 (fun _ _ => trivial), Kd.R_mono r.r1 (fun _ _ => trivial), Kd.R_mono r.r2 (fun _ _ => trivial), Kd.R_mono r.r3 (fun _ _ => trivial), HB, hg, fun _ _ _ _ hc _ => hc⟩
theorem St.app {w we W W' : World} {g : Nat} {s0 s1 s2 s3 vc : Value} {l0 c : List Int} {l1 : List S90} {l2 : List S93} {l3 : List S96} (h : St w we W g s0 s1 s2 s3 l0 l1 l2 l3) (hc : Kd.R (Kd.int .i64) 3 W w.heap.size (fun k => some k ≠ s0.ownBlock) vc c) (hg : W.grownBy W' vc.ownBlock) (hB : Below w.heap.size w W') : St w we W' g s0 s1 s2 s3 l0 l1 l2 l3 :=
  ⟨blk_grown h.blk hg (Kd.R_ne hc h.blk (by decide)), Kd.R_mono (Kd.R_step (Kd.R_tight rfl h.r0) (fun k ho hlt => hg.block k hlt (fun he => hc.1 k he.symm ho))) (fun _ _ => trivial), Kd.R_over h.r1 hc (by decide) hg, Kd.R_over h.r2 hc (by decide) hg, Kd.R_over h.r3 hc (by decide) hg, hB, h.hg, fun j cs t hj hc' ht => blk_grown (h.fr j cs t hj hc' ht) hg (Kd.R_ne hc (h.fr j cs t hj hc' ht) (fun he => ht (he ▸ by decide)))⟩
end Go.Proofs.YtbanogkoaplcdaaGreat.QDa
