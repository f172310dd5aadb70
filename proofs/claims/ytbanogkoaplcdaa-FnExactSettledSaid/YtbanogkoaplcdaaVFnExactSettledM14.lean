/- Parts of the proof of FnExactSettled, one behind the other. No condition. -/
import Derived.Test.YtbanogkoaplcdaaVFnExactSettledM13
namespace Go.Proofs.Ytbanogkoaplcdaa.QSe
open Go.RowKit Go.Proofs.Ytbanogkoaplcdaa.Reg13 Go.Proofs.Ytbanogkoaplcdaa.Reg11 Go.Proofs.Ytbanogkoaplcdaa.Reg10 Go.Proofs.Ytbanogkoaplcdaa.Reg9 Go.Proofs.Ytbanogkoaplcdaa.Lock Go.Proofs.Ytbanogkoaplcdaa.Auto Go.Proofs.Ytbanogkoaplcdaa.Short Go.Proofs.YtbanogkoaplcdaaW.PrintWords Go.Proofs.YtbanogkoaplcdaaW.PrintLast Go.Proofs.YtbanogkoaplcdaaW.PrintMore
set_option linter.unusedVariables false
abbrev Got := List Int × List S84 × List S86 × List S73 × Int
abbrev DoF := Nat → List Int → List S84 → List S86 → List S73 → Int → Int → Int → List Int → Int → ByteArray → ByteArray → Int → Int → Int → Option Got
def DoF.at (d : DoF) (k : Nat) (q0 : List Int) (q1 : List S84) (q2 : List S86) (q3 : List S73) (y : S51) : Option Got := d k q0 q1 q2 q3 y.f0.f0 y.f0.f1 y.f1 y.f2 y.f3 y.f4 y.f5 y.f6 y.f7.f0 y.f7.f1
mutual
def se0 (d : DoF) : Nat → List S51 → Int → Bool → List Int → List S84 → List S86 → List S73 → Option Got
  | 0, _, _, _, _, _, _, _ => none
  | k + 1, l, n, b, q0, q1, q2, q3 => if b = true then se1 d k l n false 0 q0 q1 q2 q3 else some (q0, q1, q2, q3, n)
def se1 (d : DoF) : Nat → List S51 → Int → Bool → Int → List Int → List S84 → List S86 → List S73 → Option Got
  | 0, _, _, _, _, _, _, _, _ => none
  | k + 1, l, n, b, i, q0, q1, q2, q3 => if i < (l.length : Int) then (if 0 ≤ i then ((d.at k q0 q1 q2 q3 (rd_T51 l i)).bind fun r => (if r.2.2.2.2 = 0 then se1 d k l (wrap64 (n + 1)) true (wrap64 (i + 1)) r.1 r.2.1 r.2.2.1 r.2.2.2.1 else se1 d k l n b (wrap64 (i + 1)) q0 q1 q2 q3)) else none) else se0 d k l n b q0 q1 q2 q3
end


theorem St.all {w we W : World} {g lo hi : Nat} {s0 s1 s2 s3 v0 v1 v2 v3 : Value} {l0 m0 : List Int} {l1 m1 : List S84} {l2 m2 : List S86} {l3 m3 : List S73} (h : St w we W g s0 s1 s2 s3 l0 l1 l2 l3) (r : Rw w W lo hi v0 v1 v2 v3 m0 m1 m2 m3) : St w we (W.setCells g 0 [v0, v1, v2, v3]) g v0 v1 v2 v3 m0 m1 m2 m3 := by
  have r' := r.sets (seg := [v0, v1, v2, v3]) h.blk
  obtain ⟨k1, k2, k3, k4⟩ := setCells_same g [v0, v1, v2, v3] 0 W
  exact ⟨setCells_all h.blk rfl, Kd.R_mono r'.r0 (fun _ _ => trivial), Kd.R_mono r'.r1 (fun _ _ => trivial), Kd.R_mono r'.r2 (fun _ _ => trivial), Kd.R_mono r'.r3 (fun _ _ => trivial), h.hb.trans ⟨k1, k2, k3, Nat.le_of_eq k4.symm, fun k hk => setCells_far _ 0 k (by have := h.hg; omega)⟩, h.hg, fun j cs t hj hc ht => (setCells_far _ 0 j hj).trans (h.fr j cs t hj hc ht)⟩
theorem Rw.st {w we : World} {g lo hi : Nat} {v0 v1 v2 v3 : Value} {m0 : List Int} {m1 : List S84} {m2 : List S86} {m3 : List S73} (r : Rw w we lo hi v0 v1 v2 v3 m0 m1 m2 m3) (hb : we.heap[g]? = some (.cells #[v0, v1, v2, v3] 36 (0, 0))) (HB : Below w.heap.size w we) (hg : w.heap.size ≤ g) : St w we we g v0 v1 v2 v3 m0 m1 m2 m3 :=
  ⟨hb, Kd.R_mono r.r0 (fun _ _ => trivial), Kd.R_mono r.r1 (fun _ _ => trivial), Kd.R_mono r.r2 (fun _ _ => trivial), Kd.R_mono r.r3 (fun _ _ => trivial), HB, hg, fun _ _ _ _ hc _ => hc⟩
end Go.Proofs.Ytbanogkoaplcdaa.QSe
