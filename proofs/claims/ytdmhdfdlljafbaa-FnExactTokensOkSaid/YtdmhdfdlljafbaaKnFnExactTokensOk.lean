import Derived.Test.YtdmhdfdlljafbaaPFnExactTokensOkx6
namespace Go.Proofs.Ytdmhdfdlljafbaa.PFnExactTokensOk
open Go.RowKit Go.Proofs.YtdmhdfdlljafbaaW.PrintWords Go.Proofs.YtdmhdfdlljafbaaW.PrintLast
set_option linter.unusedVariables false
def G178 (x : S178) : Prop := (Lit.int .i64 x.f0).wf = true ∧ (Lit.int .i64 x.f1).wf = true
def G140 (x : S140) : Prop := (Lit.int .i64 x.f0).wf = true ∧ (Lit.int .i64 x.f1).wf = true ∧ (x.f2.length ≤ maxLen ∧ ∀ y ∈ x.f2, (Lit.int .i64 y).wf = true) ∧ (x.f3.length ≤ maxLen ∧ ∀ y ∈ x.f3, G178 y)
/-- What is left to prove of FnExactTokensOk. -/
def laws_FnExactTokensOk.Pure : Prop := ∀ (l0 : List S140), l0.length ≤ maxLen → (∀ y ∈ l0, G140 y) → ∃ k, laws_FnExactTokensOk.f k l0 = some true
end Go.Proofs.Ytdmhdfdlljafbaa.PFnExactTokensOk
