/- Parts of the proof of FnExactDoAct, one behind the other. No condition. -/
import Derived.Test.YtbanogkoaplcdaaVFnExactDoActM47
import Derived.Test.YtbanogkoaplcdaaVFnExactDoActM48
namespace Go.Proofs.Ytbanogkoaplcdaa.QDo
open Go.RowKit Go.Proofs.YtbanogkoaplcdaaW.PrintWords Go.Proofs.Ytbanogkoaplcdaa.Open
def G112 (x : S112) : Prop := x.f0.size ≤ 9223372036854775807 ∧ (Lit.int .i64 x.f1).wf = true ∧ (Lit.int .i64 x.f2).wf = true
def G29 (x : S29) : Prop := (Lit.int .i64 x.f0).wf = true ∧ (Lit.int .i64 x.f1).wf = true
def G115 (x : S115) : Prop := True ∧ x.f1.size ≤ 9223372036854775807 ∧ x.f2.size ≤ 9223372036854775807 ∧ (Lit.int .i64 x.f3).wf = true ∧ G29 x.f4
def G118 (x : S118) : Prop := x.f0.size ≤ 9223372036854775807 ∧ G29 x.f1 ∧ (Lit.int .i64 x.f2).wf = true ∧ G29 x.f3 ∧ (Lit.int .i64 x.f4).wf = true ∧ True
def laws_FnExactDoAct.Pure : Prop := ∀ (l0_0 : List Int) (l0_1 : List S112) (l0_2 : List S115) (l0_3 : List S118) (a1_0 : Int) (a1_1 : Int) (a1_2 : Int) (l1_3 : List Int) (a1_4 : Int) (a1_5 : ByteArray) (a1_6 : ByteArray) (a1_7 : Int) (a1_8 : Int) (a1_9 : Int), (l0_0.length ≤ 9223372036854775807 ∧ ∀ x ∈ l0_0, (Lit.int .i64 x).wf = true) → (l0_1.length ≤ 9223372036854775807 ∧ ∀ x ∈ l0_1, G112 x) → (l0_2.length ≤ 9223372036854775807 ∧ ∀ x ∈ l0_2, G115 x) → (l0_3.length ≤ 9223372036854775807 ∧ ∀ x ∈ l0_3, G118 x) → (Lit.int .i64 a1_0).wf = true → (Lit.int .i64 a1_1).wf = true → (Lit.int .i64 a1_2).wf = true → (l1_3.length ≤ 9223372036854775807 ∧ ∀ x ∈ l1_3, (Lit.int .i64 x).wf = true) → (Lit.int .i64 a1_4).wf = true → a1_5.size ≤ 9223372036854775807 → a1_6.size ≤ 9223372036854775807 → (Lit.int .i64 a1_7).wf = true → (Lit.int .i64 a1_8).wf = true → (Lit.int .i64 a1_9).wf = true → ∃ k, laws_FnExactDoAct.f k l0_0 l0_1 l0_2 l0_3 a1_0 a1_1 a1_2 l1_3 a1_4 a1_5 a1_6 a1_7 a1_8 a1_9 = some true
end Go.Proofs.Ytbanogkoaplcdaa.QDo
