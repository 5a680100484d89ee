import Derived.Test.YtcalkgcnciobpaaPFnExactReadCopyx3
namespace Go.Proofs.Ytcalkgcnciobpaa.PFnExactReadCopy
open Go.RowKit Go.Proofs.YtcalkgcnciobpaaW.PrintWords Go.Proofs.YtcalkgcnciobpaaW.PrintLast
set_option linter.unusedVariables false
def G95 (x : S95) : Prop := True ∧ (Lit.int .i64 x.f1).wf = true
def G116 (x : S116) : Prop := (Lit.int .i64 x.f0).wf = true ∧ (Lit.int .i64 x.f1).wf = true ∧ (Lit.int .i64 x.f2).wf = true ∧ True ∧ (x.f4.length ≤ maxLen ∧ ∀ y ∈ x.f4, G95 y) ∧ (x.f5.length ≤ maxLen ∧ ∀ y ∈ x.f5, G95 y)
/-- What is left to prove of FnExactReadCopy. -/
def laws_FnExactReadCopy.Pure : Prop := ∀ (l0 : List S116) (a1 : Int) (a2 : Int), l0.length ≤ maxLen → (∀ y ∈ l0, G116 y) → (Lit.int .i64 a1).wf = true → (Lit.int .i64 a2).wf = true → ∃ k, laws_FnExactReadCopy.f k l0 a1 a2 = some true
end Go.Proofs.Ytcalkgcnciobpaa.PFnExactReadCopy
