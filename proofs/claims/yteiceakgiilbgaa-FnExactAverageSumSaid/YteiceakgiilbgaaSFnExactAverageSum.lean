/- The statement over numbers and lists that the law FnExactAverageSum comes to, and the walk that leads there. -/
import Derived.Test.YteiceakgiilbgaaOpen
import Derived.Test.YteiceakgiilbgaaFLawsFnExactAverageSum
namespace Go.Proofs.Yteiceakgiilbgaa.Pr
open Go.RowKit Go.Proofs.YteiceakgiilbgaaW.PrintWords Go.Proofs.YteiceakgiilbgaaW.PrintLast
set_option linter.unusedVariables false

end Go.Proofs.Yteiceakgiilbgaa.Pr
