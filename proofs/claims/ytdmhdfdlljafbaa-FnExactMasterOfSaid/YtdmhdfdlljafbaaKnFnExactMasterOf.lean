import Derived.Test.YtdmhdfdlljafbaaHFnExactMasterOfb
namespace Go.Proofs.Ytdmhdfdlljafbaa.PFnExactMasterOf
open Go.RowKit Go.Proofs.YtdmhdfdlljafbaaW.PrintWords Go.Proofs.YtdmhdfdlljafbaaW.PrintLast
set_option linter.unusedVariables false
def G160 (x : S160) : Prop := True ∧ (Lit.int .i64 x.f1).wf = true
def G115 (x : S115) : Prop := (Lit.int .i64 x.f0).wf = true ∧ (Lit.int .i64 x.f1).wf = true ∧ (Lit.int .i64 x.f2).wf = true ∧ (x.f3.length ≤ maxLen ∧ ∀ y ∈ x.f3, G160 y)
/-- What is left to prove of FnExactMasterOf. -/
def laws_FnExactMasterOf.Pure : Prop := ∀ (l0 : List S115) (a1 : Int), l0.length ≤ maxLen → (∀ y ∈ l0, G115 y) → (Lit.int .i64 a1).wf = true → ∃ k, laws_FnExactMasterOf.Good k l0 a1
end Go.Proofs.Ytdmhdfdlljafbaa.PFnExactMasterOf
