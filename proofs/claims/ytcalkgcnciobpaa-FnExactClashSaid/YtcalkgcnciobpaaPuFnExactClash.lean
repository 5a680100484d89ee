/- What is left of the law FnExactClash: over lists and numbers alone. No condition beyond the statement's own. -/
import Derived.Test.YtcalkgcnciobpaaKnFnExactClash
import Derived.Test.YtcalkgcnciobpaaV
namespace Go.Proofs.Ytcalkgcnciobpaa.PFnExactClash
open Go.RowKit Go.Proofs.YtcalkgcnciobpaaW.PrintWords Go.Proofs.YtcalkgcnciobpaaW.PrintLast Go.Proofs.YtcalkgcnciobpaaW.PrintMore Go.Proofs.YtcalkgcnciobpaaV
set_option linter.unusedVariables false
set_option linter.unusedSimpArgs false
theorem v_impl_within (a b c : Int) : impl_within.f a b c = some (decide (b ≤ a ∧ a ≤ c)) := by
  unfold impl_within.f
  by_cases h : a ≥ b
  · rw [if_pos h]
    simp [show b ≤ a from h]
  · rw [if_neg h]
    simp [show ¬ b ≤ a from h]

theorem pure_law : laws_FnExactClash.Pure := by
  intro y0 y1 _ _
  unfold laws_FnExactClash.f
  simp only [laws_toEvent.f, Option.bind_some]
  unfold spec_Clash.f impl_Clash.f
  simp only [v_impl_within]
  by_cases h1 : y0.f1 = 1 <;> by_cases h2 : y0.f1 = 2 <;> by_cases h3 : y1.f1 = 1 <;> by_cases h4 : y1.f1 = 2 <;> by_cases h5 : y0.f0 = y1.f0 <;> by_cases h6 : y0.f2 = y1.f2 <;> by_cases h7 : y0.f3 = y1.f3 <;>
    (have e0 : decide (1 ≤ y0.f1 ∧ y0.f1 ≤ 2) = decide (y0.f1 = 1 ∨ y0.f1 = 2) := by congr 1; apply propext; omega
     have e1 : decide (1 ≤ y1.f1 ∧ y1.f1 ≤ 2) = decide (y1.f1 = 1 ∨ y1.f1 = 2) := by congr 1; apply propext; omega
     first | omega | simp [e0, e1, h1, h2, h3, h4, h5, h6, h7])

end Go.Proofs.Ytcalkgcnciobpaa.PFnExactClash
namespace Go.Proofs.Ytcalkgcnciobpaa.PureOf
theorem FnExactClash : Go.Proofs.Ytcalkgcnciobpaa.PFnExactClash.laws_FnExactClash.Pure := Go.Proofs.Ytcalkgcnciobpaa.PFnExactClash.pure_law
end Go.Proofs.Ytcalkgcnciobpaa.PureOf
