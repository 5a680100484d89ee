import Derived.Test.YtcalkgcnciobpaaPFnExactEventsOkx2
namespace Go.Proofs.Ytcalkgcnciobpaa.PFnExactEventsOk
open Go.RowKit Go.Proofs.YtcalkgcnciobpaaW.PrintWords Go.Proofs.YtcalkgcnciobpaaW.PrintLast
set_option linter.unusedVariables false
def G23 (x : S23) : Prop := (Lit.int .i64 x.f0).wf = true ∧ (Lit.int .i64 x.f1).wf = true ∧ (Lit.int .i64 x.f2).wf = true ∧ (Lit.int .i64 x.f3).wf = true
/-- What is left to prove of FnExactEventsOk. -/
def laws_FnExactEventsOk.Pure : Prop := ∀ (l0 : List S23), l0.length ≤ maxLen → (∀ y ∈ l0, G23 y) → ∃ k, laws_FnExactEventsOk.f k l0 = some true
end Go.Proofs.Ytcalkgcnciobpaa.PFnExactEventsOk
