-- A text of the machine side, written by wip/gen.py of this repo out of the translation. Not trusted: Lean checks it.
import Derived.Test.YteiceakgiilbgaaF0
import Derived.Test.YteiceakgiilbgaaFImplAverageKept
namespace Go.Proofs.Yteiceakgiilbgaa.Pr
open Go.RowKit Go.Proofs.YteiceakgiilbgaaW.PrintWords Go.Proofs.YteiceakgiilbgaaW.PrintLast Go.Proofs.YteiceakgiilbgaaW.PrintMore
attribute [local go_sem] max2_int min2_int max_two min_two max_three min_three max_four min_four   -- for this text's walks alone
set_option linter.unusedVariables false
set_option linter.unusedSimpArgs false

/-! ### impl_AverageSum: function 39 -/
def impl_AverageSum.f (k : Nat) (a0 : Int) (a1 : Int) : Option (Int × Int × Bool) := (impl_AverageKept.f k a0 a1 a0).bind fun btBD => (some (btBD.1, btBD.2.1, btBD.2.2))
set_option maxHeartbeats 8000000 in
set_option maxRecDepth 100000 in
theorem impl_AverageSum.calls (k : Nat) (a0 : Int) (a1 : Int) (r1 : Int) (r2 : Int) (r3 : Bool) (w : World) (h : impl_AverageSum.f k a0 a1 = some (r1, r2, r3)) :
  Calls Try.prog 39 #[.int .i64 a0, .int .i64 a1] w fun e w' => e = .returned (.tuple #[.int .i64 r1, .int .i64 r2, .bool r3]) ∧ Below w.heap.size w w' := by
 have HB := Aside0.mk (Below.refl w.heap.size w)
 have H : ((impl_AverageKept.f k a0 a1 a0).bind fun btBD => (some (btBD.1, btBD.2.1, btBD.2.2))) = some (r1, r2, r3) := h
 clear h
 replace H := Option.bind_eq_some_iff.mp H
 obtain ⟨⟨tBD, tBE, tBF⟩, A30, H⟩ := H
 replace H : (some (tBD, tBE, tBF)) = some (r1, r2, r3) := H
 have A3 := Aside0.mk A30
 clear A30
 simp only [Option.some.injEq, Prod.mk.injEq] at H
 obtain ⟨rfl, rfl, rfl⟩ := H
 go_enter Try.func39, Try.ntmps39
 go_wp2_with (first | ((with_reducible refine gate_callee (f := 69) rfl ?_); refine goesL_ (some 10) rfl rfl Try.func69 (by kernel_rfl) rfl #[.int .i64 a0, .int .i64 a1, .int .i64 a0] rfl argS ?_; (with_reducible refine (impl_AverageKept.calls k a0 a1 a0 tBD tBE tBF _ A3.out).mono ?_); rintro e w4 ⟨rfl, hb⟩; refine ⟨_, rfl, ?_⟩; have n0_ := Aside0.mk (below_step belS hb); clear HB; revert n0_; intro HB; (try clear hb)))
 go_ret3
 exact ⟨by first | rfl | (simp [errW_none, errW_some] <;> rfl) | (simp [*, errW_none, errW_some] <;> rfl), by exact belS⟩

end Go.Proofs.Yteiceakgiilbgaa.Pr
