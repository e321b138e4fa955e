/- Proved here: how a function value over a pair is called, given its own contract; no other condition. -/
import Derived.Test.YtogfijfhjdjhpaaHFv
namespace Go.Proofs.Ytogfijfhjdjhpaa.Pr
open Go.RowKit Go.Proofs.YtogfijfhjdjhpaaW.PrintWords Go.Proofs.YtogfijfhjdjhpaaW.PrintLast Go.Proofs.YtogfijfhjdjhpaaW.PrintMore
set_option linter.unusedVariables false
set_option linter.unusedSimpArgs false

/-- a function value over a pair: its function, what it holds, what it answers -/
structure FvT where
  g : Nat
  lb : Array Value
  p : Int → Int → Int → Int → Option Bool

def FvT.v (x : FvT) : Value := .func (.func x.g) #[] x.lb

def fvT_.f (x : FvT) (a b c d : Int) : Option Bool := x.p a b c d

structure FvT.Ok (x : FvT) : Prop where
  eg : ∀ args w, (callFunc x.g args).run Try.prog w = .ok (.enter x.g args) w
  go : ∀ (W : World) (a b c d : Int) (r : Bool), fvT_.f x a b c d = some r → Calls Try.prog x.g (#[.agg #[.int .i64 a, .int .i64 b, .int .i64 c, .int .i64 d]] ++ x.lb) W fun e w' => e = .returned (.bool r) ∧ Below W.heap.size W w'

end Go.Proofs.Ytogfijfhjdjhpaa.Pr
