/- What is left of the law FnExactHomeOf: over numbers alone. No condition beyond the statement's own. -/
import Derived.Test.YtcalkgcnciobpaaPFnExactHomeOfx1
namespace Go.Proofs.Ytcalkgcnciobpaa.Pure
open Go.RowKit Go.Proofs.Ytcalkgcnciobpaa.PFnExactHomeOf Go.Proofs.YtcalkgcnciobpaaW.PrintWords Go.Proofs.YtcalkgcnciobpaaW.PrintLast
theorem FnExactHomeOf : laws_FnExactHomeOf.Pure := by
  intro a0 a1 h0 h1
  unfold laws_FnExactHomeOf.f spec_HomeOf.f impl_HomeOf.f
  by_cases c : a1 < 1
  · simp [c]
  · by_cases d : Int.tmod a0 a1 < 0
    · simp [c, d, show ¬ a1 = 0 by omega]
    · simp [c, d, show ¬ a1 = 0 by omega]
end Go.Proofs.Ytcalkgcnciobpaa.Pure
