/- The pure statement of the law FnExactConstants: for all arguments within the printed bounds the printed function of the law answers true. Conditions: only the bounds that the printed statement itself names. -/
import Derived.Test.YtokljpgdjgphlaaPFnExactConstantsx1
namespace Go.Proofs.Ytokljpgdjgphlaa.Pure
open Go.RowKit Go.Proofs.Ytokljpgdjgphlaa.PFnExactConstants Go.Proofs.YtokljpgdjgphlaaW.PrintWords Go.Proofs.YtokljpgdjgphlaaW.PrintLast
set_option linter.unusedVariables false
set_option linter.unusedSimpArgs false

/-! ### the law -/
theorem FnExactConstants : laws_FnExactConstants.Pure := rfl

end Go.Proofs.Ytokljpgdjgphlaa.Pure
