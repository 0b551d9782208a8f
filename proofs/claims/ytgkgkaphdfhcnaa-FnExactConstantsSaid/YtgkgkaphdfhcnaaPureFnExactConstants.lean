/- The law FnExactConstants answers true: the program's constants are the document's. No condition. -/
import Derived.Test.YtgkgkaphdfhcnaaPFnExactConstantsx1
namespace Go.Proofs.Ytgkgkaphdfhcnaa.Pure
open Go.RowKit Go.Proofs.Ytgkgkaphdfhcnaa.PFnExactConstants Go.Proofs.YtgkgkaphdfhcnaaW.PrintWords Go.Proofs.YtgkgkaphdfhcnaaW.PrintLast

theorem FnExactConstants : laws_FnExactConstants.Pure := by
  unfold laws_FnExactConstants.Pure laws_FnExactConstants.f
  rfl

end Go.Proofs.Ytgkgkaphdfhcnaa.Pure
