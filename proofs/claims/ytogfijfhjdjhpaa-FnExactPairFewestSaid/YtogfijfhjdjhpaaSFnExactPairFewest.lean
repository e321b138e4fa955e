/- The statement over numbers and lists that the law FnExactPairFewest comes to, and the walk that leads there. -/
import Derived.Test.YtogfijfhjdjhpaaOpen
import Derived.Test.YtogfijfhjdjhpaaFLawsFnExactPairFewest
namespace Go.Proofs.Ytogfijfhjdjhpaa.Pr
open Go.RowKit Go.Proofs.YtogfijfhjdjhpaaW.PrintWords Go.Proofs.YtogfijfhjdjhpaaW.PrintLast
set_option linter.unusedVariables false

end Go.Proofs.Ytogfijfhjdjhpaa.Pr
