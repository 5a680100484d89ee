import Derived.Test.YtcalkgcnciobpaaPFnExactPatchx4
namespace Go.Proofs.Ytcalkgcnciobpaa.PFnExactPatch
open Go.RowKit Go.Proofs.YtcalkgcnciobpaaW.PrintWords Go.Proofs.YtcalkgcnciobpaaW.PrintLast
set_option linter.unusedVariables false
def G95 (x : S95) : Prop := True ∧ (Lit.int .i64 x.f1).wf = true
def G97 (x : S97) : Prop := (Lit.int .i64 x.f0).wf = true ∧ G95 x.f1
/-- What is left to prove of FnExactPatch. -/
def laws_FnExactPatch.Pure : Prop := ∀ (l0 : List S95) (l1 : List S97), l0.length ≤ maxLen → (∀ y ∈ l0, G95 y) → l1.length ≤ maxLen → (∀ y ∈ l1, G97 y) → ∃ k, laws_FnExactPatch.f k l0 l1 = some true
end Go.Proofs.Ytcalkgcnciobpaa.PFnExactPatch
