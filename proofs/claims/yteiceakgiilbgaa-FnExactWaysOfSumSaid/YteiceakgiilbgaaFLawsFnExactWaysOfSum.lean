-- A text of the machine side, written by wip/gen.py of this repo out of the translation. Not trusted: Lean checks it.
import Derived.Test.YteiceakgiilbgaaF0
import Derived.Test.YteiceakgiilbgaaFImplWaysOfSum
import Derived.Test.YteiceakgiilbgaaFSpecWaysOfSum
namespace Go.Proofs.Yteiceakgiilbgaa.Pr
open Go.RowKit Go.Proofs.YteiceakgiilbgaaW.PrintWords Go.Proofs.YteiceakgiilbgaaW.PrintLast Go.Proofs.YteiceakgiilbgaaW.PrintMore
attribute [local go_sem] max2_int min2_int max_two min_two max_three min_three max_four min_four   -- for this text's walks alone
set_option linter.unusedVariables false
set_option linter.unusedSimpArgs false

/-! ### laws_FnExactWaysOfSum: function 13 -/
def laws_FnExactWaysOfSum.f (k : Nat) (a0 : Int) (a1 : Int) (a2 : Int) : Option (Bool) := (spec_WaysOfSum.f k a0 a1 a2).bind fun btBD => ((impl_WaysOfSum.f k a0 a1 a2).bind fun btBF => (if btBF.1 = btBD.1 then (if (btBF.2 != btBD.2) = true then (some false) else (some true)) else (some false)))
set_option maxHeartbeats 8000000 in
set_option maxRecDepth 100000 in
theorem laws_FnExactWaysOfSum.calls (k : Nat) (a0 : Int) (a1 : Int) (a2 : Int) (r : Bool) (w : World) (h : laws_FnExactWaysOfSum.f k a0 a1 a2 = some r) :
  Calls Try.prog 13 #[.int .i64 a0, .int .i64 a1, .int .i64 a2] w fun e w' => e = .returned (.bool r) ∧ Below w.heap.size w w' := by
 have HB := Aside0.mk (Below.refl w.heap.size w)
 have H : ((spec_WaysOfSum.f k a0 a1 a2).bind fun btBD => ((impl_WaysOfSum.f k a0 a1 a2).bind fun btBF => (if btBF.1 = btBD.1 then (if (btBF.2 != btBD.2) = true then (some false) else (some true)) else (some false)))) = some r := h
 clear h
 replace H := Option.bind_eq_some_iff.mp H
 obtain ⟨⟨tBD, tBE⟩, A40, H⟩ := H
 replace H : ((impl_WaysOfSum.f k a0 a1 a2).bind fun btBF => (if btBF.1 = tBD then (if (btBF.2 != tBE) = true then (some false) else (some true)) else (some false))) = some r := H
 have A4 := Aside0.mk A40
 clear A40
 replace H := Option.bind_eq_some_iff.mp H
 obtain ⟨⟨tBF, tBG⟩, A50, H⟩ := H
 replace H : (if tBF = tBD then (if (tBG != tBE) = true then (some false) else (some true)) else (some false)) = some r := H
 have A5 := Aside0.mk A50
 clear A50
 by_cases c6 : tBF = tBD
 ·rw [if_pos c6] at H
  have c6b0 : (tBF == tBD) = true := beq_iff_eq.mpr c6
  have c6b1 : (tBF != tBD) = false := bne_eq_false_iff_eq.mpr c6
  clear c6
  by_cases c7 : (tBG != tBE) = true
  ·rw [if_pos c7] at H
   have c7b0 : (tBG != tBE) = true := c7
   (try (have c7b1 : decide (tBG = tBE) = false := by simpa using c7))
   (try (have c7b2 : (tBG == tBE) = false := by simpa using c7))
   (try (have c7b3 : ¬ (tBG = tBE) := by simpa using c7))
   clear c7
   obtain rfl := Option.some.inj H
   go_enter Try.func13, Try.ntmps13
   go_wp2_with (first | ((with_reducible refine gate_callee (f := 36) rfl ?_); refine goesL_ (some 15) rfl rfl Try.func36 (by kernel_rfl) rfl #[.int .i64 a0, .int .i64 a1, .int .i64 a2] rfl argS ?_; (with_reducible refine (spec_WaysOfSum.calls k a0 a1 a2 tBD tBE _ A4.out).mono ?_); rintro e w8 ⟨rfl, hb⟩; refine ⟨_, rfl, ?_⟩; have n0_ := Aside0.mk (below_step belS hb); clear HB; revert n0_; intro HB; (try clear hb)) | ((with_reducible refine gate_callee (f := 37) rfl ?_); refine goesL_ (some 22) rfl rfl Try.func37 (by kernel_rfl) rfl #[.int .i64 a0, .int .i64 a1, .int .i64 a2] rfl argS ?_; (with_reducible refine (impl_WaysOfSum.calls k a0 a1 a2 tBF tBG _ A5.out).mono ?_); rintro e w9 ⟨rfl, hb⟩; refine ⟨_, rfl, ?_⟩; have n0_ := Aside0.mk (below_step belS hb); clear HB; revert n0_; intro HB; (try clear hb)))
   go_ret
   exact ⟨by first | rfl | (simp [errW_none, errW_some] <;> rfl) | (simp [*, errW_none, errW_some] <;> rfl), by exact belS⟩
  ·rw [if_neg c7] at H
   have c7b0 : (tBG != tBE) = false := by simpa using c7
   (try (have c7b1 : decide (tBG = tBE) = true := by simpa using c7))
   (try (have c7b2 : (tBG == tBE) = true := by simpa using c7))
   clear c7
   obtain rfl := Option.some.inj H
   go_enter Try.func13, Try.ntmps13
   go_wp2_with (first | ((with_reducible refine gate_callee (f := 36) rfl ?_); refine goesL_ (some 15) rfl rfl Try.func36 (by kernel_rfl) rfl #[.int .i64 a0, .int .i64 a1, .int .i64 a2] rfl argS ?_; (with_reducible refine (spec_WaysOfSum.calls k a0 a1 a2 tBD tBE _ A4.out).mono ?_); rintro e w10 ⟨rfl, hb⟩; refine ⟨_, rfl, ?_⟩; have n0_ := Aside0.mk (below_step belS hb); clear HB; revert n0_; intro HB; (try clear hb)) | ((with_reducible refine gate_callee (f := 37) rfl ?_); refine goesL_ (some 22) rfl rfl Try.func37 (by kernel_rfl) rfl #[.int .i64 a0, .int .i64 a1, .int .i64 a2] rfl argS ?_; (with_reducible refine (impl_WaysOfSum.calls k a0 a1 a2 tBF tBG _ A5.out).mono ?_); rintro e w11 ⟨rfl, hb⟩; refine ⟨_, rfl, ?_⟩; have n0_ := Aside0.mk (below_step belS hb); clear HB; revert n0_; intro HB; (try clear hb)))
   go_ret
   exact ⟨by first | rfl | (simp [errW_none, errW_some] <;> rfl) | (simp [*, errW_none, errW_some] <;> rfl), by exact belS⟩
 ·rw [if_neg c6] at H
  have c6b0 : (tBF == tBD) = false := beq_eq_false_iff_ne.mpr c6
  have c6b1 : (tBF != tBD) = true := bne_iff_ne.mpr c6
  obtain rfl := Option.some.inj H
  go_enter Try.func13, Try.ntmps13
  go_wp2_with (first | ((with_reducible refine gate_callee (f := 36) rfl ?_); refine goesL_ (some 15) rfl rfl Try.func36 (by kernel_rfl) rfl #[.int .i64 a0, .int .i64 a1, .int .i64 a2] rfl argS ?_; (with_reducible refine (spec_WaysOfSum.calls k a0 a1 a2 tBD tBE _ A4.out).mono ?_); rintro e w12 ⟨rfl, hb⟩; refine ⟨_, rfl, ?_⟩; have n0_ := Aside0.mk (below_step belS hb); clear HB; revert n0_; intro HB; (try clear hb)) | ((with_reducible refine gate_callee (f := 37) rfl ?_); refine goesL_ (some 22) rfl rfl Try.func37 (by kernel_rfl) rfl #[.int .i64 a0, .int .i64 a1, .int .i64 a2] rfl argS ?_; (with_reducible refine (impl_WaysOfSum.calls k a0 a1 a2 tBF tBG _ A5.out).mono ?_); rintro e w13 ⟨rfl, hb⟩; refine ⟨_, rfl, ?_⟩; have n0_ := Aside0.mk (below_step belS hb); clear HB; revert n0_; intro HB; (try clear hb)))
  go_ret
  exact ⟨by first | rfl | (simp [errW_none, errW_some] <;> rfl) | (simp [*, errW_none, errW_some] <;> rfl), by exact belS⟩

/-- THE ONE PURE STATEMENT of laws_FnExactWaysOfSum: yours. -/
def laws_FnExactWaysOfSum.Pure : Prop := ∀ (a0 : Int) (a1 : Int) (a2 : Int), (Lit.int .i64 a0).wf = true → (Lit.int .i64 a1).wf = true → (Lit.int .i64 a2).wf = true → ∃ k, laws_FnExactWaysOfSum.f k a0 a1 a2 = some true
theorem laws_FnExactWaysOfSum.walk (P : laws_FnExactWaysOfSum.Pure) (a0 : Int) (a1 : Int) (a2 : Int) (w : World) (w0 : (Lit.int .i64 a0).wf = true) (w1 : (Lit.int .i64 a1).wf = true) (w2 : (Lit.int .i64 a2).wf = true) :
  Calls Try.prog 13 #[.int .i64 a0, .int .i64 a1, .int .i64 a2] w fun e w' => e = .returned (.bool true) ∧ Below w.heap.size w w' := by
 obtain ⟨k, h⟩ := P a0 a1 a2 w0 w1 w2
 refine (laws_FnExactWaysOfSum.calls k a0 a1 a2 true w h).mono ?_
 rintro e w' ⟨rfl, hd⟩
 exact ⟨rfl, hd⟩

end Go.Proofs.Yteiceakgiilbgaa.Pr
