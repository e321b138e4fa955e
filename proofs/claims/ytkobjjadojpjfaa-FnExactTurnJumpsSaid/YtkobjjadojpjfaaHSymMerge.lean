/- Proved here: of slices.symMergeCmpFunc nothing is told: no list of at most 20 jumps comes to it. -/
import Derived.Test.YtkobjjadojpjfaaHFvC
namespace Go.Proofs.Ytkobjjadojpjfaa.Pr
open Go.RowKit Go.Proofs.YtkobjjadojpjfaaW.PrintWords Go.Proofs.YtkobjjadojpjfaaW.PrintLast Go.Proofs.YtkobjjadojpjfaaW.PrintMore
set_option linter.unusedVariables false

def impl_Jump_221.f (k : Nat) (l0 : List S27) (a1 : Int) (a2 : Int) (a3 : Int) (a4 : FvC) : Option (List S27) := none

theorem impl_Jump_221.calls (k : Nat) (P0_ : Nat → Prop) (u9000_ : Value) (l0 : List S27) (a1 : Int) (a2 : Int) (a3 : Int) (a4 : FvC) (r : List S27) (w0 w : World) (hB : Below w0.heap.size w0 w) (ho0 : Kd.R k27 27 w w0.heap.size P0_ u9000_ l0) (h : impl_Jump_221.f k l0 a1 a2 a3 a4 = some r) (hp : FvC.Ok a4) :
    Calls Try.prog 221 #[u9000_, .int .i64 a1, .int .i64 a2, .int .i64 a3, FvC.v a4] w fun e w' => e = .returned (.tuple #[]) ∧ Kd.R k27 27 w' w0.heap.size (fun k_ => (P0_ k_ ∨ w.heap.size ≤ k_)) u9000_ r ∧ Below w0.heap.size w0 w' ∧ Kept w w' (fun k_ => P0_ k_) := by
  cases h

end Go.Proofs.Ytkobjjadojpjfaa.Pr
