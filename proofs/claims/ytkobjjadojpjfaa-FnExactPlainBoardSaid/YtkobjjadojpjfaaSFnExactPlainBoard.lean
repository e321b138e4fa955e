/- The statement over numbers and lists that the law FnExactPlainBoard comes to, and the walk that leads there. -/
import Derived.Test.YtkobjjadojpjfaaOpen
import Derived.Test.YtkobjjadojpjfaaFLawsFnExactPlainBoard
namespace Go.Proofs.Ytkobjjadojpjfaa.Pr
open Go.RowKit Go.Proofs.YtkobjjadojpjfaaW.PrintWords Go.Proofs.YtkobjjadojpjfaaW.PrintLast
set_option linter.unusedVariables false

end Go.Proofs.Ytkobjjadojpjfaa.Pr
