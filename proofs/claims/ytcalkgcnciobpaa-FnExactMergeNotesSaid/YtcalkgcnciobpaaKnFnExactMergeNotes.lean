import Derived.Test.YtcalkgcnciobpaaPFnExactMergeNotesx7
namespace Go.Proofs.Ytcalkgcnciobpaa.PFnExactMergeNotes
open Go.RowKit Go.Proofs.YtcalkgcnciobpaaW.PrintWords Go.Proofs.YtcalkgcnciobpaaW.PrintLast
set_option linter.unusedVariables false
def G89 (x : S89) : Prop := (Lit.int .i64 x.f0).wf = true ∧ (Lit.int .i64 x.f1).wf = true
/-- What is left to prove of FnExactMergeNotes. -/
def laws_FnExactMergeNotes.Pure : Prop := ∀ (l0 : List S89) (l1 : List S89), l0.length ≤ maxLen → (∀ y ∈ l0, G89 y) → l1.length ≤ maxLen → (∀ y ∈ l1, G89 y) → ∃ k, laws_FnExactMergeNotes.f k l0 l1 = some true
end Go.Proofs.Ytcalkgcnciobpaa.PFnExactMergeNotes
