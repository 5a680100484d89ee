import Derived.Test.YtligjkjogaobnaaHFnExactClocksb
namespace Go.Proofs.Ytligjkjogaobnaa.PFnExactClocks
open Go.RowKit Go.Proofs.YtligjkjogaobnaaW.PrintWords Go.Proofs.YtligjkjogaobnaaW.PrintLast
set_option linter.unusedVariables false
def G153 (x : S153) : Prop := (Lit.int .i64 x.f0).wf = true ∧ (Lit.int .i64 x.f1).wf = true ∧ (Lit.int .i64 x.f2).wf = true ∧ (Lit.int .i64 x.f3).wf = true
/-- What is left to prove of FnExactClocks. -/
def laws_FnExactClocks.Pure : Prop := ∀ (l0 : List S153), l0.length ≤ maxLen → (∀ y ∈ l0, G153 y) → ∃ k, laws_FnExactClocks.Good k l0
end Go.Proofs.Ytligjkjogaobnaa.PFnExactClocks
