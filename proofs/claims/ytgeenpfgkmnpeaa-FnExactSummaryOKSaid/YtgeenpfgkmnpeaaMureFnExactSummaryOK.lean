/- Proved: the pure statement behind the law FnExactSummaryOK of the given program: for every input that the row lets in, the program's answer and the reference's agree and the law returns true. Conditions: none beyond the row's own. -/
import Derived.Test.YtgeenpfgkmnpeaaMFnExactSummaryOKx2
set_option linter.unusedVariables false
set_option linter.unusedSimpArgs false
namespace Go.Proofs.Ytgeenpfgkmnpeaa.Pure
open Go.RowKit Go.Proofs.Ytgeenpfgkmnpeaa.MFnExactSummaryOK Go.Proofs.YtgeenpfgkmnpeaaW.PrintWords Go.Proofs.YtgeenpfgkmnpeaaW.PrintLast

theorem sums_eq (a0 a1 a2 a3 a4 : Int) : spec_SummaryOK.f a0 a1 a2 a3 a4 = some (sumOKb a0 a1 a2 a3 a4) := rfl

theorem FnExactSummaryOK : laws_FnExactSummaryOK.Pure := by
  intro x _
  unfold laws_FnExactSummaryOK.f laws_toSummary.f impl_SummaryOK.f
  simp only [Option.bind_some, sums_eq, bne_self_eq_false]
  rfl


end Go.Proofs.Ytgeenpfgkmnpeaa.Pure
