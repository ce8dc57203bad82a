/- The program's Constants answers as the reference's does, for all arguments that the statement lets in; no further condition. -/
import Derived.Test.YtolbgaaelkepkaaPFnExactConstantsx1
import Derived.Test.YtolbgaaelkepkaaCore
namespace Go.Proofs.Ytolbgaaelkepkaa.Pure
open Go.RowKit Go.Proofs.Ytolbgaaelkepkaa.PFnExactConstants Go.Proofs.YtolbgaaelkepkaaW.PrintWords Go.Proofs.YtolbgaaelkepkaaW.PrintLast Go.Proofs.YtolbgaaelkepkaaW.PrintMore Go.Proofs.Ytolbgaaelkepkaa.Core
set_option linter.unusedVariables false
set_option linter.unusedSimpArgs false

theorem FnExactConstants : laws_FnExactConstants.Pure := rfl

end Go.Proofs.Ytolbgaaelkepkaa.Pure
