/- Proved here: the law FnExactConstants answers true; no condition. -/
import Derived.Test.YteiceakgiilbgaaPFnExactConstantsx1
namespace Go.Proofs.Yteiceakgiilbgaa.Pure
open Go.RowKit Go.Proofs.Yteiceakgiilbgaa.PFnExactConstants Go.Proofs.YteiceakgiilbgaaW.PrintWords Go.Proofs.YteiceakgiilbgaaW.PrintLast

theorem FnExactConstants : laws_FnExactConstants.Pure := rfl

end Go.Proofs.Yteiceakgiilbgaa.Pure
