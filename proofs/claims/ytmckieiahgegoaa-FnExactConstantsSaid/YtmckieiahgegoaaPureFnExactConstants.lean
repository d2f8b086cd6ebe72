/- Proves the plain law behind this statement of the seat (what its functions come to, over numbers and lists): that it answers true. No condition beyond the statement's own. -/
import Derived.Test.YtmckieiahgegoaaPFnExactConstantsx
import Derived.Test.YtmckieiahgegoaaLib
import Derived.Test.YtmckieiahgegoaaLibRow
namespace Go.Proofs.Ytmckieiahgegoaa.Pure
open Go Go.RowKit Go.Proofs.Ytmckieiahgegoaa.PFnExactConstants Go.Proofs.YtmckieiahgegoaaW.PrintWords Go.Proofs.YtmckieiahgegoaaW.PrintLast Go.Proofs.YtmckieiahgegoaaW.PrintMore Go.Proofs.Ytmckieiahgegoaa.Lib
set_option linter.unusedVariables false
set_option linter.unusedSimpArgs false
theorem FnExactConstants : laws_FnExactConstants.Pure := rfl
end Go.Proofs.Ytmckieiahgegoaa.Pure
