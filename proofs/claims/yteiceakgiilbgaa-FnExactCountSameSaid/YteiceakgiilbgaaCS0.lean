/- Proved here: the program's count of throws with no face too often, at the dice that are; no other condition. -/
import Derived.Test.YteiceakgiilbgaaCS
import Derived.Test.YteiceakgiilbgaaHCountSame
namespace Go.Proofs.Yteiceakgiilbgaa.Pure
open Go.RowKit Go.Proofs.Yteiceakgiilbgaa.Pr Go.Proofs.YteiceakgiilbgaaW.PrintWords Go.Proofs.YteiceakgiilbgaaW.PrintLast
set_option linter.unusedSimpArgs false
set_option linter.unusedVariables false

theorem counted_0 : ∀ d : Fin 8, ∀ n : Fin 12, impl_counted.f 3000 ((d.val + 1 : Nat) : Int) ((n.val + 1 : Nat) : Int) (mostV 0) = some (rd (MR 0 (n.val + 1)) ((d.val + 1 : Nat) : Int)) := by decide +kernel

theorem counted_1 : ∀ d : Fin 8, ∀ n : Fin 12, impl_counted.f 3000 ((d.val + 1 : Nat) : Int) ((n.val + 1 : Nat) : Int) (mostV 1) = some (rd (MR 1 (n.val + 1)) ((d.val + 1 : Nat) : Int)) := by decide +kernel

theorem counted_2 : ∀ d : Fin 8, ∀ n : Fin 12, impl_counted.f 3000 ((d.val + 1 : Nat) : Int) ((n.val + 1 : Nat) : Int) (mostV 2) = some (rd (MR 2 (n.val + 1)) ((d.val + 1 : Nat) : Int)) := by decide +kernel

end Go.Proofs.Yteiceakgiilbgaa.Pure
