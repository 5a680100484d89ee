import Derived.Test.YtligjkjogaobnaaPFnExactBeforex10
namespace Go.Proofs.Ytligjkjogaobnaa.PFnExactBefore
open Go.RowKit Go.Proofs.YtligjkjogaobnaaW.PrintWords Go.Proofs.YtligjkjogaobnaaW.PrintLast
set_option linter.unusedVariables false
def G153 (x : S153) : Prop := (Lit.int .i64 x.f0).wf = true ∧ (Lit.int .i64 x.f1).wf = true ∧ (Lit.int .i64 x.f2).wf = true ∧ (Lit.int .i64 x.f3).wf = true
/-- What is left to prove of FnExactBefore. -/
def laws_FnExactBefore.Pure : Prop := ∀ (l0 : List S153) (a1 : Int) (a2 : Int), l0.length ≤ maxLen → (∀ y ∈ l0, G153 y) → (Lit.int .i64 a1).wf = true → (Lit.int .i64 a2).wf = true → ∃ k, laws_FnExactBefore.f k l0 a1 a2 = some true
end Go.Proofs.Ytligjkjogaobnaa.PFnExactBefore
