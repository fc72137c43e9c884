/- Proved: the pure statement behind the law FnExactOneCost of the given program: for every input that the row lets in, the program's answer and the reference's agree and the law returns true. Conditions: none beyond the row's own. -/
import Derived.Test.YtgeenpfgkmnpeaaPFnExactOneCostx1
set_option linter.unusedVariables false
set_option linter.unusedSimpArgs false
namespace Go.Proofs.Ytgeenpfgkmnpeaa.Pure
open Go.RowKit Go.Proofs.Ytgeenpfgkmnpeaa.PFnExactOneCost Go.Proofs.YtgeenpfgkmnpeaaW.PrintWords Go.Proofs.YtgeenpfgkmnpeaaW.PrintLast

theorem FnExactOneCost : laws_FnExactOneCost.Pure := by
  intro a b _
  unfold laws_FnExactOneCost.f spec_OneCost.f impl_OneCost.f impl_isTime.f spec_l01In.f impl_within.f laws_eqSummary.f spec_l05One.f impl_oneCost.f
  by_cases h1 : a ≥ 0
  · by_cases h2 : a ≤ 2147483647 <;> cases b <;> simp [h1, h2]
  · simp [h1]


end Go.Proofs.Ytgeenpfgkmnpeaa.Pure
