import Derived.Test.YtcalkgcnciobpaaPFnExactCoversx4
namespace Go.Proofs.Ytcalkgcnciobpaa.PFnExactCovers
open Go.RowKit Go.Proofs.YtcalkgcnciobpaaW.PrintWords Go.Proofs.YtcalkgcnciobpaaW.PrintLast
set_option linter.unusedVariables false
def G89 (x : S89) : Prop := (Lit.int .i64 x.f0).wf = true ∧ (Lit.int .i64 x.f1).wf = true
/-- What is left to prove of FnExactCovers. -/
def laws_FnExactCovers.Pure : Prop := ∀ (l0 : List S89) (l1 : List S89), l0.length ≤ maxLen → (∀ y ∈ l0, G89 y) → l1.length ≤ maxLen → (∀ y ∈ l1, G89 y) → ∃ k, laws_FnExactCovers.f k l0 l1 = some true
end Go.Proofs.Ytcalkgcnciobpaa.PFnExactCovers
