/- Proved here: the function value isDone keeps its contract; no condition. -/
import Derived.Test.YtogfijfhjdjhpaaHFvT
import Derived.Test.YtogfijfhjdjhpaaFImplTwinsIsDone
namespace Go.Proofs.Ytogfijfhjdjhpaa.Pr
open Go.RowKit Go.Proofs.YtogfijfhjdjhpaaW.PrintWords Go.Proofs.YtogfijfhjdjhpaaW.PrintLast Go.Proofs.YtogfijfhjdjhpaaW.PrintMore
set_option linter.unusedVariables false
set_option linter.unusedSimpArgs false

def doneV : FvT := ⟨38, #[], impl_twins_isDone.f⟩

theorem doneV_ok : FvT.Ok doneV := by
  refine ⟨enters_pr Try.func38 (by kernel_rfl) rfl, fun W a b c d r h => ?_⟩
  exact impl_twins_isDone.calls a b c d r W h

end Go.Proofs.Ytogfijfhjdjhpaa.Pr
