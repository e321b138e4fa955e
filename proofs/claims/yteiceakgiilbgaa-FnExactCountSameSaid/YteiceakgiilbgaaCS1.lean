/- Proved here: the program's count of throws with no face too often, at the dice that are; no other condition. -/
import Derived.Test.YteiceakgiilbgaaCS
import Derived.Test.YteiceakgiilbgaaHCountSame
namespace Go.Proofs.Yteiceakgiilbgaa.Pure
open Go.RowKit Go.Proofs.Yteiceakgiilbgaa.Pr Go.Proofs.YteiceakgiilbgaaW.PrintWords Go.Proofs.YteiceakgiilbgaaW.PrintLast
set_option linter.unusedSimpArgs false
set_option linter.unusedVariables false

theorem counted_3 : ∀ d : Fin 8, ∀ n : Fin 12, impl_counted.f 3000 ((d.val + 1 : Nat) : Int) ((n.val + 1 : Nat) : Int) (mostV 3) = some (rd (MR 3 (n.val + 1)) ((d.val + 1 : Nat) : Int)) := by decide +kernel

theorem counted_4 : ∀ d : Fin 8, ∀ n : Fin 12, impl_counted.f 3000 ((d.val + 1 : Nat) : Int) ((n.val + 1 : Nat) : Int) (mostV 4) = some (rd (MR 4 (n.val + 1)) ((d.val + 1 : Nat) : Int)) := by decide +kernel

theorem counted_5 : ∀ d : Fin 8, ∀ n : Fin 12, impl_counted.f 3000 ((d.val + 1 : Nat) : Int) ((n.val + 1 : Nat) : Int) (mostV 5) = some (rd (MR 5 (n.val + 1)) ((d.val + 1 : Nat) : Int)) := by decide +kernel

end Go.Proofs.Yteiceakgiilbgaa.Pure
