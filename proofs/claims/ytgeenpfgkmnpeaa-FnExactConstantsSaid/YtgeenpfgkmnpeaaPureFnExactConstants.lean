/- Proved: the pure statement behind the law FnExactConstants of the given program: for every input that the row lets in, the program's answer and the reference's agree and the law returns true. Conditions: none beyond the row's own. -/
import Derived.Test.YtgeenpfgkmnpeaaPFnExactConstantsx1
set_option linter.unusedVariables false
set_option linter.unusedSimpArgs false
namespace Go.Proofs.Ytgeenpfgkmnpeaa.Pure
open Go.RowKit Go.Proofs.Ytgeenpfgkmnpeaa.PFnExactConstants Go.Proofs.YtgeenpfgkmnpeaaW.PrintWords Go.Proofs.YtgeenpfgkmnpeaaW.PrintLast

theorem FnExactConstants : laws_FnExactConstants.Pure := by
  rfl


end Go.Proofs.Ytgeenpfgkmnpeaa.Pure
