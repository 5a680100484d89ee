import Derived.Test.YtdmhdfdlljafbaaHFnExactDirtyOfb
namespace Go.Proofs.Ytdmhdfdlljafbaa.PFnExactDirtyOf
open Go.RowKit Go.Proofs.YtdmhdfdlljafbaaW.PrintWords Go.Proofs.YtdmhdfdlljafbaaW.PrintLast
set_option linter.unusedVariables false
def G160 (x : S160) : Prop := True ∧ (Lit.int .i64 x.f1).wf = true
def G145 (x : S145) : Prop := (Lit.int .i64 x.f0).wf = true ∧ (Lit.int .i64 x.f1).wf = true ∧ (Lit.int .i64 x.f2).wf = true ∧ True ∧ (x.f4.length ≤ maxLen ∧ ∀ y ∈ x.f4, G160 y) ∧ (x.f5.length ≤ maxLen ∧ ∀ y ∈ x.f5, G160 y)
/-- What is left to prove of FnExactDirtyOf. -/
def laws_FnExactDirtyOf.Pure : Prop := ∀ (l0 : List S145), l0.length ≤ maxLen → (∀ y ∈ l0, G145 y) → ∃ k, laws_FnExactDirtyOf.Good k l0
end Go.Proofs.Ytdmhdfdlljafbaa.PFnExactDirtyOf
