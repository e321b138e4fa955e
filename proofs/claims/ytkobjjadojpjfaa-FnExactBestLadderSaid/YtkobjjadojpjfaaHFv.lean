/- Proved here: how a call of a function value steps, given what the function value answers; the condition is the function value's own contract. -/
import Derived.Test.YtkobjjadojpjfaaF0
namespace Go.Proofs.Ytkobjjadojpjfaa.Pr
open Go.RowKit Go.Proofs.YtkobjjadojpjfaaW.PrintWords Go.Proofs.YtkobjjadojpjfaaW.PrintLast Go.Proofs.YtkobjjadojpjfaaW.PrintMore
set_option linter.unusedVariables false
set_option linter.unusedSimpArgs false

theorem goesV_ {P : Program} {ops : Array Oper} {Q : Exit → Act → World → Prop} {rest : List Oper} {oi : Oper} {a : Act} {w : World} (N : Option Tmp) (hd : oi.dst = N) (hg : oi.guard = none) {t : Tmp} {g : FuncId} {lb : Array Value} {xs : Array Operand} {ts : Array TypeId}
    (eg : ∀ args w, (callFunc g args).run P w = .ok (.enter g args) w) (args : Array Value) (hop : oi.op = .call { callee := .value (.tmp t), args := xs, argTypes := ts }) (hv : a.eval (.tmp t) = .func (.func g) #[] lb) (hargs : xs.map a.eval = args)
    (h : Calls P g (args ++ lb) w fun e w' => ∃ v, e = .returned v ∧ wpList P ops Q rest (a.put N v) w') : wpList P ops Q (oi :: rest) a w := by
  refine wpList_plain hg fun K hK => ?_
  have he := eg (args ++ lb) w
  have hrun : (execOp a.eval oi).run P w = .ok (.enter g (args ++ lb)) w := by
    unfold execOp
    simp [hop, resolve, Deferred.ofValue, invoke, hv, hargs, he]
  unfold Oper.wp
  rw [hrun, Oper.upon_enter]
  refine h.mono fun e w'' hh => ?_
  obtain ⟨v, rfl, hk⟩ := hh
  subst hd
  exact hK _ _ hk

/-- a function value over one whole number: its function, what it holds, what it answers -/
structure Fv1 where
  g : Nat
  lb : Array Value
  p : Int → Option Bool

structure Fv2 where
  g : Nat
  lb : Array Value
  p : Int → Int → Option Bool

def Fv1.v (x : Fv1) : Value := .func (.func x.g) #[] x.lb
def Fv2.v (x : Fv2) : Value := .func (.func x.g) #[] x.lb

def fv1_.f (x : Fv1) (a : Int) : Option Bool := x.p a
def fv2_.f (x : Fv2) (a b : Int) : Option Bool := x.p a b

/-- in every world in which all that lay in w lies unturned the function value answers so; it may make memory -/
structure Fv1.Ok (x : Fv1) (w : World) : Prop where
  eg : ∀ args w, (callFunc x.g args).run Try.prog w = .ok (.enter x.g args) w
  go : ∀ (W : World) (a : Int) (r : Bool), Below w.heap.size w W → fv1_.f x a = some r → Calls Try.prog x.g (#[.int .i64 a] ++ x.lb) W fun e w' => e = .returned (.bool r) ∧ Below W.heap.size W w'

structure Fv2.Ok (x : Fv2) (w : World) : Prop where
  eg : ∀ args w, (callFunc x.g args).run Try.prog w = .ok (.enter x.g args) w
  go : ∀ (W : World) (a b : Int) (r : Bool), Below w.heap.size w W → fv2_.f x a b = some r → Calls Try.prog x.g (#[.int .i64 a, .int .i64 b] ++ x.lb) W fun e w' => e = .returned (.bool r) ∧ Below W.heap.size W w'

theorem enters_pr {f : FuncId} {fn : Func} {c : Code} (hf : Try.prog.funcs[f]? = some fn) (hname : (fn.name == "runtime.NumGoroutine") = false) (hb : fn.body = some c) :
    ∀ (args : Array Value) (w : World), (callFunc f args).run Try.prog w = .ok (.enter f args) w := by
  intro args w
  have h1 : fn.name ≠ "runtime.NumGoroutine" := by simpa using hname
  simp [callFunc, hf, h1, hb, mark]

end Go.Proofs.Ytkobjjadojpjfaa.Pr
