/- Proved: the pure statement behind the law FnExactCostOf of the given program: for every input that the row lets in, the program's answer and the reference's agree and the law returns true. Conditions: none beyond the row's own. -/
import Derived.Test.YtgeenpfgkmnpeaaPFnExactCostOfx1
set_option linter.unusedVariables false
set_option linter.unusedSimpArgs false
namespace Go.Proofs.Ytgeenpfgkmnpeaa.Pure
open Go.RowKit Go.Proofs.Ytgeenpfgkmnpeaa.PFnExactCostOf Go.Proofs.YtgeenpfgkmnpeaaW.PrintWords Go.Proofs.YtgeenpfgkmnpeaaW.PrintLast

theorem cost_low (a : Int) (h : ¬ (1 ≤ a ∧ a ≤ 26)) : ∃ k, laws_FnExactCostOf.f k a = some true := by
  refine ⟨0, ?_⟩
  unfold laws_FnExactCostOf.f spec_CostOf.f impl_CostOf.f spec_l02Op.f impl_isOp.f spec_l01In.f impl_within.f
  by_cases h1 : a ≥ 1
  · have h2 : ¬ a ≤ 26 := by omega
    simp [h1, h2]
  · simp [h1]

theorem FnExactCostOf : laws_FnExactCostOf.Pure := by
  intro a _
  by_cases h : 1 ≤ a ∧ a ≤ 26
  · have : a = 1 ∨ a = 2 ∨ a = 3 ∨ a = 4 ∨ a = 5 ∨ a = 6 ∨ a = 7 ∨ a = 8 ∨ a = 9 ∨ a = 10 ∨ a = 11 ∨ a = 12 ∨ a = 13 ∨ a = 14 ∨ a = 15 ∨ a = 16 ∨ a = 17 ∨ a = 18 ∨ a = 19 ∨ a = 20 ∨ a = 21 ∨ a = 22 ∨ a = 23 ∨ a = 24 ∨ a = 25 ∨ a = 26 := by omega
    refine ⟨1, ?_⟩
    rcases this with h | h | h | h | h | h | h | h | h | h | h | h | h | h | h | h | h | h | h | h | h | h | h | h | h | h <;> subst h <;> decide
  · exact cost_low a h


end Go.Proofs.Ytgeenpfgkmnpeaa.Pure
