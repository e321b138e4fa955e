-- A text of the machine side, written by wip/gen.py of this repo out of the translation. Not trusted: Lean checks it.
import Derived.Test.YtkobjjadojpjfaaF0
import Derived.Test.YtkobjjadojpjfaaFBitsMul64
namespace Go.Proofs.Ytkobjjadojpjfaa.Pr
open Go.RowKit Go.Proofs.YtkobjjadojpjfaaW.PrintWords Go.Proofs.YtkobjjadojpjfaaW.PrintLast Go.Proofs.YtkobjjadojpjfaaW.PrintMore
attribute [local go_sem] max2_int min2_int max_two min_two max_three min_three max_four min_four   -- for this text's walks alone
set_option linter.unusedVariables false
set_option linter.unusedSimpArgs false

/-! ### bits_Mul: function 214 -/
def bits_Mul.f (a0 : Int) (a1 : Int) : Option (Int × Int) := (bits_Mul64.f a0 a1).bind fun btBD => (some (btBD.1, btBD.2))
set_option maxHeartbeats 8000000 in
set_option maxRecDepth 100000 in
theorem bits_Mul.calls (a0 : Int) (a1 : Int) (r1 : Int) (r2 : Int) (w : World) (h : bits_Mul.f a0 a1 = some (r1, r2)) :
  Calls Try.prog 214 #[.int .u64 a0, .int .u64 a1] w fun e w' => e = .returned (.tuple #[.int .u64 r1, .int .u64 r2]) ∧ Drawn0 w w' := by
 have H : ((bits_Mul64.f a0 a1).bind fun btBD => (some (btBD.1, btBD.2))) = some (r1, r2) := h
 clear h
 replace H := Option.bind_eq_some_iff.mp H
 obtain ⟨⟨tBD, tBE⟩, A30, H⟩ := H
 replace H : (some (tBD, tBE)) = some (r1, r2) := H
 have A3 := Am A30
 clear A30
 simp only [Option.some.injEq, Prod.mk.injEq] at H
 obtain ⟨rfl, rfl⟩ := H
 go_enter Try.func214, Try.ntmps214
 go_wp2_with (first | ((with_reducible refine gate_callee (f := 219) rfl ?_); refine goesL_ (some 25) rfl rfl Try.func219 (by kernel_rfl) rfl #[.int .u64 a0, .int .u64 a1] rfl argS ?_; (with_reducible refine (bits_Mul64.calls a0 a1 tBD tBE _ A3.out).mono ?_); rintro e w' ⟨rfl, ⟨nd, rfl⟩⟩; refine ⟨_, rfl, ?_⟩))
 go_ret2
 exact ⟨by first | rfl | (simp; done) | (simp [*]; done), by repeat (first | exact Drawn0.refl _ | apply Drawn0.step)⟩

end Go.Proofs.Ytkobjjadojpjfaa.Pr
