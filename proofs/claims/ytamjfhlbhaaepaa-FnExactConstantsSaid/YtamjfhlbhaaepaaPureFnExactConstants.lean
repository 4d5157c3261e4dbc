/- FnExactConstants over plain functions: the constants of the program are the reference's; no condition. -/
import Derived.Test.YtamjfhlbhaaepaaPFnExactConstantsx1
import Derived.Test.YtamjfhlbhaaepaaBase
namespace Go.Proofs.Ytamjfhlbhaaepaa.Pure
open Go.RowKit Go.Proofs.Ytamjfhlbhaaepaa.PFnExactConstants Go.Proofs.YtamjfhlbhaaepaaW.PrintWords Go.Proofs.YtamjfhlbhaaepaaW.PrintLast Go.Proofs.Ytamjfhlbhaaepaa.Base
set_option linter.unusedVariables false
set_option linter.unusedSimpArgs false

theorem FnExactConstants : laws_FnExactConstants.Pure := rfl

end Go.Proofs.Ytamjfhlbhaaepaa.Pure
