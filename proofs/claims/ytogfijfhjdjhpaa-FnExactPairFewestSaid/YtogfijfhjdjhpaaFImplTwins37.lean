-- A text of the machine side, written by wip/gen.py of this repo out of the translation. Not trusted: Lean checks it.
import Derived.Test.YtogfijfhjdjhpaaF0
import Derived.Test.YtogfijfhjdjhpaaFImplTwins48
namespace Go.Proofs.Ytogfijfhjdjhpaa.Pr
open Go.RowKit Go.Proofs.YtogfijfhjdjhpaaW.PrintWords Go.Proofs.YtogfijfhjdjhpaaW.PrintLast Go.Proofs.YtogfijfhjdjhpaaW.PrintMore
attribute [local go_sem] max2_int min2_int max_two min_two max_three min_three max_four min_four   -- for this text's walks alone
set_option linter.unusedVariables false
set_option linter.unusedSimpArgs false

/-! ### impl_twins_37: function 37 -/
def impl_twins_37.f (k : Nat) (l0 : List (S38)) (a1 : FvT) : Option (Bool) := (impl_twins_48.f k l0 a1).bind fun tBD => (some (decide (tBD ≥ 0)))
set_option maxHeartbeats 8000000 in
set_option maxRecDepth 100000 in
theorem impl_twins_37.calls (k : Nat) (A0 : Option Addr) (c0 : Nat) (l0 : List (S38)) (a1 : FvT) (r : Bool) (w : World) (hr0 : Kd.C k38 w A0 l0.length l0) (hc0 : l0.length ≤ c0) (h : impl_twins_37.f k l0 a1 = some r) (hp : FvT.Ok a1) :
  Calls Try.prog 37 #[.slice A0 l0.length c0, FvT.v a1] w fun e w' => e = .returned (.bool r) ∧ Below w.heap.size w w' := by
 have HP := Aside0.mk hp
 clear hp
 have HR0 := Aside0.mk hr0
 have HC0 := Aside0.mk hc0
 clear hr0 hc0
 have HB := Aside0.mk (Below.refl w.heap.size w)
 have H : ((impl_twins_48.f k l0 a1).bind fun tBD => (some (decide (tBD ≥ 0)))) = some r := h
 clear h
 replace H := Option.bind_eq_some_iff.mp H
 obtain ⟨tBD, A30, H⟩ := H
 replace H : (some (decide (tBD ≥ 0))) = some r := H
 have A3 := Aside0.mk A30
 clear A30
 obtain rfl := Option.some.inj H
 go_enter Try.func37, Try.ntmps37
 go_wp2_with (first | ((with_reducible refine gate_callee (f := 48) rfl ?_); refine goesL_ (some 7) rfl rfl Try.func48 (by kernel_rfl) rfl #[.slice A0 l0.length c0, FvT.v a1] rfl argS ?_; (with_reducible refine (impl_twins_48.calls k _ _ l0 a1 tBD _ ?side1 ?side2 A3.out HP.out).mono ?_); (case side1 => exact Kd.C_up HR0.out); (case side2 => exact HC0.out); rintro e w4 ⟨rfl, hb⟩; refine ⟨_, rfl, ?_⟩; have n0_ := Aside0.mk (below_step belS hb); clear HB; revert n0_; intro HB; (try clear hb)))
 go_ret
 exact ⟨by first | rfl | (simp [errW_none, errW_some] <;> rfl) | (simp [*, errW_none, errW_some] <;> rfl), by exact belS⟩

end Go.Proofs.Ytogfijfhjdjhpaa.Pr
