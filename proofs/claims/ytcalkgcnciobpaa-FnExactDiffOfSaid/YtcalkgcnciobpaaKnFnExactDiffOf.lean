import Derived.Test.YtcalkgcnciobpaaPFnExactDiffOfx4
namespace Go.Proofs.Ytcalkgcnciobpaa.PFnExactDiffOf
open Go.RowKit Go.Proofs.YtcalkgcnciobpaaW.PrintWords Go.Proofs.YtcalkgcnciobpaaW.PrintLast
set_option linter.unusedVariables false
def G95 (x : S95) : Prop := True ∧ (Lit.int .i64 x.f1).wf = true
/-- What is left to prove of FnExactDiffOf. -/
def laws_FnExactDiffOf.Pure : Prop := ∀ (l0 : List S95) (l1 : List S95), l0.length ≤ maxLen → (∀ y ∈ l0, G95 y) → l1.length ≤ maxLen → (∀ y ∈ l1, G95 y) → ∃ k, laws_FnExactDiffOf.f k l0 l1 = some true
end Go.Proofs.Ytcalkgcnciobpaa.PFnExactDiffOf
