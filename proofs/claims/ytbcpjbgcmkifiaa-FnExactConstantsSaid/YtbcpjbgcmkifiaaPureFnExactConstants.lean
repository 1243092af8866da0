/- The pure statement of FnExactConstants: the printed function answers true. No condition. -/
import Derived.Test.YtbcpjbgcmkifiaaPFnExactConstantsx1
set_option linter.unusedVariables false
set_option linter.unusedSimpArgs false
namespace Go.Proofs.Ytbcpjbgcmkifiaa.Pure
open Go.RowKit Go.Proofs.Ytbcpjbgcmkifiaa.PFnExactConstants Go.Proofs.YtbcpjbgcmkifiaaW.PrintWords Go.Proofs.YtbcpjbgcmkifiaaW.PrintLast Go.Proofs.YtbcpjbgcmkifiaaW.PrintMore

theorem FnExactConstants : laws_FnExactConstants.Pure := rfl

end Go.Proofs.Ytbcpjbgcmkifiaa.Pure
