import Derived.Test.YtcalkgcnciobpaaPFnExactAddNotex7
namespace Go.Proofs.Ytcalkgcnciobpaa.PFnExactAddNote
open Go.RowKit Go.Proofs.YtcalkgcnciobpaaW.PrintWords Go.Proofs.YtcalkgcnciobpaaW.PrintLast
set_option linter.unusedVariables false
def G89 (x : S89) : Prop := (Lit.int .i64 x.f0).wf = true ∧ (Lit.int .i64 x.f1).wf = true
/-- What is left to prove of FnExactAddNote. -/
def laws_FnExactAddNote.Pure : Prop := ∀ (l0 : List S89) (a1 : Int) (a2 : Int), l0.length ≤ maxLen → (∀ y ∈ l0, G89 y) → (Lit.int .i64 a1).wf = true → (Lit.int .i64 a2).wf = true → ∃ k, laws_FnExactAddNote.f k l0 a1 a2 = some true
end Go.Proofs.Ytcalkgcnciobpaa.PFnExactAddNote
