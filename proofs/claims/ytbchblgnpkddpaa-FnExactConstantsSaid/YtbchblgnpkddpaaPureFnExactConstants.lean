/- The program's constants have the reference's values. -/
import Derived.Test.YtbchblgnpkddpaaPFnExactConstantsx1
namespace Go.Proofs.Ytbchblgnpkddpaa.Pure
open Go.RowKit Go.Proofs.Ytbchblgnpkddpaa.PFnExactConstants Go.Proofs.YtbchblgnpkddpaaW.PrintWords Go.Proofs.YtbchblgnpkddpaaW.PrintLast
set_option linter.unusedVariables false
set_option linter.unusedSimpArgs false

theorem FnExactConstants : laws_FnExactConstants.Pure := rfl

end Go.Proofs.Ytbchblgnpkddpaa.Pure
