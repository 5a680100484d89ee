import Derived.Test.YtcalkgcnciobpaaPFnExactNoteOfx2
namespace Go.Proofs.Ytcalkgcnciobpaa.PFnExactNoteOf
open Go.RowKit Go.Proofs.YtcalkgcnciobpaaW.PrintWords Go.Proofs.YtcalkgcnciobpaaW.PrintLast
set_option linter.unusedVariables false
def G89 (x : S89) : Prop := (Lit.int .i64 x.f0).wf = true ∧ (Lit.int .i64 x.f1).wf = true
/-- What is left to prove of FnExactNoteOf. -/
def laws_FnExactNoteOf.Pure : Prop := ∀ (l0 : List S89) (a1 : Int), l0.length ≤ maxLen → (∀ y ∈ l0, G89 y) → (Lit.int .i64 a1).wf = true → ∃ k, laws_FnExactNoteOf.f k l0 a1 = some true
end Go.Proofs.Ytcalkgcnciobpaa.PFnExactNoteOf
