/- Proved: the pure statement behind the law FnExactNewFb of the given program: for every input that the row lets in, the program's answer and the reference's agree and the law returns true. Conditions: none beyond the row's own. -/
import Derived.Test.YtgeenpfgkmnpeaaPFnExactNewFbx1
set_option linter.unusedVariables false
set_option linter.unusedSimpArgs false
namespace Go.Proofs.Ytgeenpfgkmnpeaa.Pure
open Go.RowKit Go.Proofs.Ytgeenpfgkmnpeaa.PFnExactNewFb Go.Proofs.YtgeenpfgkmnpeaaW.PrintWords Go.Proofs.YtgeenpfgkmnpeaaW.PrintLast

theorem FnExactNewFb : laws_FnExactNewFb.Pure := by
  intro a _
  unfold laws_FnExactNewFb.f spec_NewFb.f impl_NewFb.f spec_l03Kind.f impl_isFbKind.f spec_l01In.f impl_within.f laws_eqFb.f
  by_cases h1 : a ≥ 1
  · by_cases h2 : a ≤ 4 <;> simp [h1, h2]
  · simp [h1]


end Go.Proofs.Ytgeenpfgkmnpeaa.Pure
