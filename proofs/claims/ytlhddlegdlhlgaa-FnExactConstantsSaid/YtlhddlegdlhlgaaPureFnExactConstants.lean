/- The program's constants are the reference's. -/
import Derived.Test.YtlhddlegdlhlgaaPFnExactConstantsx1
import Derived.Test.YtlhddlegdlhlgaaBase
namespace Go.Proofs.Ytlhddlegdlhlgaa.Pure
open Go.RowKit Go.Proofs.Ytlhddlegdlhlgaa.PFnExactConstants Go.Proofs.YtlhddlegdlhlgaaW.PrintWords Go.Proofs.YtlhddlegdlhlgaaW.PrintLast Go.Proofs.YtlhddlegdlhlgaaW.PrintMore Go.Proofs.Ytlhddlegdlhlgaa.Base
set_option linter.unusedVariables false
set_option linter.unusedSimpArgs false

theorem FnExactConstants : laws_FnExactConstants.Pure := rfl

end Go.Proofs.Ytlhddlegdlhlgaa.Pure
