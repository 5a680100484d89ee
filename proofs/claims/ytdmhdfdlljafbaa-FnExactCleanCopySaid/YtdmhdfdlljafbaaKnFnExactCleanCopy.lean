import Derived.Test.YtdmhdfdlljafbaaHFnExactCleanCopyb
namespace Go.Proofs.Ytdmhdfdlljafbaa.PFnExactCleanCopy
open Go.RowKit Go.Proofs.YtdmhdfdlljafbaaW.PrintWords Go.Proofs.YtdmhdfdlljafbaaW.PrintLast
set_option linter.unusedVariables false
def G160 (x : S160) : Prop := True ∧ (Lit.int .i64 x.f1).wf = true
def G145 (x : S145) : Prop := (Lit.int .i64 x.f0).wf = true ∧ (Lit.int .i64 x.f1).wf = true ∧ (Lit.int .i64 x.f2).wf = true ∧ True ∧ (x.f4.length ≤ maxLen ∧ ∀ y ∈ x.f4, G160 y) ∧ (x.f5.length ≤ maxLen ∧ ∀ y ∈ x.f5, G160 y)
/-- What is left to prove of FnExactCleanCopy. -/
def laws_FnExactCleanCopy.Pure : Prop := ∀ (l0 : List S145) (a1 : Int), l0.length ≤ maxLen → (∀ y ∈ l0, G145 y) → (Lit.int .i64 a1).wf = true → ∃ k, laws_FnExactCleanCopy.Good k l0 a1
end Go.Proofs.Ytdmhdfdlljafbaa.PFnExactCleanCopy
