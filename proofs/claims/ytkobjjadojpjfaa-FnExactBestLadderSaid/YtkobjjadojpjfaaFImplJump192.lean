-- A text of the machine side, written by wip/gen.py of this repo out of the translation. Not trusted: Lean checks it.
import Derived.Test.YtkobjjadojpjfaaF0
import Derived.Test.YtkobjjadojpjfaaFImplJump213
import Derived.Test.YtkobjjadojpjfaaHFvJ
namespace Go.Proofs.Ytkobjjadojpjfaa.Pr
open Go.RowKit Go.Proofs.YtkobjjadojpjfaaW.PrintWords Go.Proofs.YtkobjjadojpjfaaW.PrintLast Go.Proofs.YtkobjjadojpjfaaW.PrintMore
attribute [local go_sem] max2_int min2_int max_two min_two max_three min_three max_four min_four   -- for this text's walks alone
set_option linter.unusedVariables false
set_option linter.unusedSimpArgs false

/-! ### impl_Jump_192: function 192 -/
def impl_Jump_192.f (k : Nat) (l0 : List (S27)) (a1 : FvJ) : Option (Bool) := (impl_Jump_213.f k l0 a1).bind fun tBD => (some (decide (tBD ≥ 0)))
set_option maxHeartbeats 8000000 in
set_option maxRecDepth 100000 in
theorem impl_Jump_192.calls (k : Nat) (A0 : Option Addr) (c0 : Nat) (l0 : List (S27)) (a1 : FvJ) (r : Bool) (w : World) (hr0 : Kd.C k27 w A0 l0.length l0) (hc0 : l0.length ≤ c0) (h : impl_Jump_192.f k l0 a1 = some r) (hp : FvJ.Ok a1 w) :
  Calls Try.prog 192 #[.slice A0 l0.length c0, FvJ.v a1] w fun e w' => e = .returned (.bool r) ∧ Below w.heap.size w w' := by
 have HP := Am hp
 clear hp
 have HR0 := Am hr0
 have HC0 := Am hc0
 clear hr0 hc0
 have HB := Am (Below.refl w.heap.size w)
 have H : ((impl_Jump_213.f k l0 a1).bind fun tBD => (some (decide (tBD ≥ 0)))) = some r := h
 clear h
 replace H := Option.bind_eq_some_iff.mp H
 obtain ⟨tBD, A30, H⟩ := H
 replace H : (some (decide (tBD ≥ 0))) = some r := H
 have A3 := Am A30
 clear A30
 obtain rfl := Option.some.inj H
 go_enter Try.func192, Try.ntmps192
 go_wp2_with (first | ((with_reducible refine gate_callee (f := 213) rfl ?_); refine goesL_ (some 7) rfl rfl Try.func213 (by kernel_rfl) rfl #[.slice A0 l0.length c0, FvJ.v a1] rfl argS ?_; (with_reducible refine (impl_Jump_213.calls k _ _ l0 a1 tBD _ ?side1 ?side2 A3.out (HP.out.up belS)).mono ?_); (case side1 => exact Kd.C_up HR0.out); (case side2 => exact HC0.out); rintro e w4 ⟨rfl, hb⟩; refine ⟨_, rfl, ?_⟩; have n0_ := Am (below_step belS hb); clear HB; revert n0_; intro HB; (try clear hb)))
 go_ret
 exact ⟨rfE, by exact belS⟩

end Go.Proofs.Ytkobjjadojpjfaa.Pr
