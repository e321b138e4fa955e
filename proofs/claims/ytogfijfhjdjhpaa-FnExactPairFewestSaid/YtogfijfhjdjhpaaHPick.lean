/- Proved here: what the read of an array of two by a computed index answers; the condition is the index's bounds. -/
import Derived.Test.YtogfijfhjdjhpaaF0
namespace Go.Proofs.Ytogfijfhjdjhpaa.Pr
open Go.RowKit Go.Proofs.YtogfijfhjdjhpaaW.PrintWords Go.Proofs.YtogfijfhjdjhpaaW.PrintLast Go.Proofs.YtogfijfhjdjhpaaW.PrintMore
set_option linter.unusedVariables false
set_option linter.unusedSimpArgs false

def pick_.f (a b i : Int) : Option Int := if i = 0 then some a else if i = 1 then some b else none

theorem pick_idx {a b i r : Int} (h : pick_.f a b i = some r) : ∀ w : World, (Instr.index 36 (.agg #[.int .i64 a, .int .i64 b]) (.int .i64 i)).run Try.prog w = .ok (.int .i64 r) w := by
  intro w
  unfold pick_.f at h
  split at h
  · rename_i h0
    subst h0
    obtain rfl := Option.some.inj h
    kernel_rfl
  · split at h
    · rename_i h0
      subst h0
      obtain rfl := Option.some.inj h
      kernel_rfl
    · cases h

end Go.Proofs.Ytogfijfhjdjhpaa.Pr
