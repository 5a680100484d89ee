import Derived.Test.YtligjkjogaobnaaHFnExactTokenOfb
namespace Go.Proofs.Ytligjkjogaobnaa.PFnExactTokenOf
open Go.RowKit Go.Proofs.YtligjkjogaobnaaW.PrintWords Go.Proofs.YtligjkjogaobnaaW.PrintLast
set_option linter.unusedVariables false
def G167 (x : S167) : Prop := (Lit.int .i64 x.f0).wf = true ∧ (Lit.int .i64 x.f1).wf = true
def G133 (x : S133) : Prop := (Lit.int .i64 x.f0).wf = true ∧ (Lit.int .i64 x.f1).wf = true ∧ (x.f2.length ≤ maxLen ∧ ∀ y ∈ x.f2, (Lit.int .i64 y).wf = true) ∧ (x.f3.length ≤ maxLen ∧ ∀ y ∈ x.f3, G167 y)
/-- What is left to prove of FnExactTokenOf. -/
def laws_FnExactTokenOf.Pure : Prop := ∀ (l0 : List S133) (a1 : Int), l0.length ≤ maxLen → (∀ y ∈ l0, G133 y) → (Lit.int .i64 a1).wf = true → ∃ k, laws_FnExactTokenOf.Good k l0 a1
end Go.Proofs.Ytligjkjogaobnaa.PFnExactTokenOf
