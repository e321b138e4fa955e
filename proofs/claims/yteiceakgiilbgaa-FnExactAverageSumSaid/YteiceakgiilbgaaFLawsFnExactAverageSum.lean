-- A text of the machine side, written by wip/gen.py of this repo out of the translation. Not trusted: Lean checks it.
import Derived.Test.YteiceakgiilbgaaF0
import Derived.Test.YteiceakgiilbgaaFImplAverageSum
import Derived.Test.YteiceakgiilbgaaFSpecAverageSum
namespace Go.Proofs.Yteiceakgiilbgaa.Pr
open Go.RowKit Go.Proofs.YteiceakgiilbgaaW.PrintWords Go.Proofs.YteiceakgiilbgaaW.PrintLast Go.Proofs.YteiceakgiilbgaaW.PrintMore
attribute [local go_sem] max2_int min2_int max_two min_two max_three min_three max_four min_four   -- for this text's walks alone
set_option linter.unusedVariables false
set_option linter.unusedSimpArgs false

/-! ### laws_FnExactAverageSum: function 14 -/
def laws_FnExactAverageSum.f (k : Nat) (a0 : Int) (a1 : Int) : Option (Bool) := (spec_AverageSum.f k a0 a1).bind fun btBD => ((impl_AverageSum.f k a0 a1).bind fun btBG => (if btBG.1 = btBD.1 then (if btBG.2.1 = btBD.2.1 then (if (btBG.2.2 != btBD.2.2) = true then (some false) else (some true)) else (some false)) else (some false)))
set_option maxHeartbeats 8000000 in
set_option maxRecDepth 100000 in
theorem laws_FnExactAverageSum.calls (k : Nat) (a0 : Int) (a1 : Int) (r : Bool) (w : World) (h : laws_FnExactAverageSum.f k a0 a1 = some r) :
  Calls Try.prog 14 #[.int .i64 a0, .int .i64 a1] w fun e w' => e = .returned (.bool r) ∧ Below w.heap.size w w' := by
 have HB := Aside0.mk (Below.refl w.heap.size w)
 have H : ((spec_AverageSum.f k a0 a1).bind fun btBD => ((impl_AverageSum.f k a0 a1).bind fun btBG => (if btBG.1 = btBD.1 then (if btBG.2.1 = btBD.2.1 then (if (btBG.2.2 != btBD.2.2) = true then (some false) else (some true)) else (some false)) else (some false)))) = some r := h
 clear h
 replace H := Option.bind_eq_some_iff.mp H
 obtain ⟨⟨tBD, tBE, tBF⟩, A30, H⟩ := H
 replace H : ((impl_AverageSum.f k a0 a1).bind fun btBG => (if btBG.1 = tBD then (if btBG.2.1 = tBE then (if (btBG.2.2 != tBF) = true then (some false) else (some true)) else (some false)) else (some false))) = some r := H
 have A3 := Aside0.mk A30
 clear A30
 replace H := Option.bind_eq_some_iff.mp H
 obtain ⟨⟨tBG, tBH, tBI⟩, A40, H⟩ := H
 replace H : (if tBG = tBD then (if tBH = tBE then (if (tBI != tBF) = true then (some false) else (some true)) else (some false)) else (some false)) = some r := H
 have A4 := Aside0.mk A40
 clear A40
 by_cases c5 : tBG = tBD
 ·rw [if_pos c5] at H
  have c5b0 : (tBG == tBD) = true := beq_iff_eq.mpr c5
  have c5b1 : (tBG != tBD) = false := bne_eq_false_iff_eq.mpr c5
  clear c5
  by_cases c6 : tBH = tBE
  ·rw [if_pos c6] at H
   have c6b0 : (tBH == tBE) = true := beq_iff_eq.mpr c6
   have c6b1 : (tBH != tBE) = false := bne_eq_false_iff_eq.mpr c6
   clear c6
   by_cases c7 : (tBI != tBF) = true
   ·rw [if_pos c7] at H
    have c7b0 : (tBI != tBF) = true := c7
    (try (have c7b1 : decide (tBI = tBF) = false := by simpa using c7))
    (try (have c7b2 : (tBI == tBF) = false := by simpa using c7))
    (try (have c7b3 : ¬ (tBI = tBF) := by simpa using c7))
    clear c7
    obtain rfl := Option.some.inj H
    go_enter Try.func14, Try.ntmps14
    go_wp2_with (first | ((with_reducible refine gate_callee (f := 38) rfl ?_); refine goesL_ (some 14) rfl rfl Try.func38 (by kernel_rfl) rfl #[.int .i64 a0, .int .i64 a1] rfl argS ?_; (with_reducible refine (spec_AverageSum.calls k a0 a1 tBD tBE tBF _ A3.out).mono ?_); rintro e w' ⟨rfl, ⟨nd, rfl⟩⟩; refine ⟨_, rfl, ?_⟩) | ((with_reducible refine gate_callee (f := 39) rfl ?_); refine goesL_ (some 21) rfl rfl Try.func39 (by kernel_rfl) rfl #[.int .i64 a0, .int .i64 a1] rfl argS ?_; (with_reducible refine (impl_AverageSum.calls k a0 a1 tBG tBH tBI _ A4.out).mono ?_); rintro e w8 ⟨rfl, hb⟩; refine ⟨_, rfl, ?_⟩; have n0_ := Aside0.mk (below_step belS hb); clear HB; revert n0_; intro HB; (try clear hb)))
    go_ret
    exact ⟨by first | rfl | (simp [errW_none, errW_some] <;> rfl) | (simp [*, errW_none, errW_some] <;> rfl), by exact belS⟩
   ·rw [if_neg c7] at H
    have c7b0 : (tBI != tBF) = false := by simpa using c7
    (try (have c7b1 : decide (tBI = tBF) = true := by simpa using c7))
    (try (have c7b2 : (tBI == tBF) = true := by simpa using c7))
    clear c7
    obtain rfl := Option.some.inj H
    go_enter Try.func14, Try.ntmps14
    go_wp2_with (first | ((with_reducible refine gate_callee (f := 38) rfl ?_); refine goesL_ (some 14) rfl rfl Try.func38 (by kernel_rfl) rfl #[.int .i64 a0, .int .i64 a1] rfl argS ?_; (with_reducible refine (spec_AverageSum.calls k a0 a1 tBD tBE tBF _ A3.out).mono ?_); rintro e w' ⟨rfl, ⟨nd, rfl⟩⟩; refine ⟨_, rfl, ?_⟩) | ((with_reducible refine gate_callee (f := 39) rfl ?_); refine goesL_ (some 21) rfl rfl Try.func39 (by kernel_rfl) rfl #[.int .i64 a0, .int .i64 a1] rfl argS ?_; (with_reducible refine (impl_AverageSum.calls k a0 a1 tBG tBH tBI _ A4.out).mono ?_); rintro e w9 ⟨rfl, hb⟩; refine ⟨_, rfl, ?_⟩; have n0_ := Aside0.mk (below_step belS hb); clear HB; revert n0_; intro HB; (try clear hb)))
    go_ret
    exact ⟨by first | rfl | (simp [errW_none, errW_some] <;> rfl) | (simp [*, errW_none, errW_some] <;> rfl), by exact belS⟩
  ·rw [if_neg c6] at H
   have c6b0 : (tBH == tBE) = false := beq_eq_false_iff_ne.mpr c6
   have c6b1 : (tBH != tBE) = true := bne_iff_ne.mpr c6
   obtain rfl := Option.some.inj H
   go_enter Try.func14, Try.ntmps14
   go_wp2_with (first | ((with_reducible refine gate_callee (f := 38) rfl ?_); refine goesL_ (some 14) rfl rfl Try.func38 (by kernel_rfl) rfl #[.int .i64 a0, .int .i64 a1] rfl argS ?_; (with_reducible refine (spec_AverageSum.calls k a0 a1 tBD tBE tBF _ A3.out).mono ?_); rintro e w' ⟨rfl, ⟨nd, rfl⟩⟩; refine ⟨_, rfl, ?_⟩) | ((with_reducible refine gate_callee (f := 39) rfl ?_); refine goesL_ (some 21) rfl rfl Try.func39 (by kernel_rfl) rfl #[.int .i64 a0, .int .i64 a1] rfl argS ?_; (with_reducible refine (impl_AverageSum.calls k a0 a1 tBG tBH tBI _ A4.out).mono ?_); rintro e w10 ⟨rfl, hb⟩; refine ⟨_, rfl, ?_⟩; have n0_ := Aside0.mk (below_step belS hb); clear HB; revert n0_; intro HB; (try clear hb)))
   go_ret
   exact ⟨by first | rfl | (simp [errW_none, errW_some] <;> rfl) | (simp [*, errW_none, errW_some] <;> rfl), by exact belS⟩
 ·rw [if_neg c5] at H
  have c5b0 : (tBG == tBD) = false := beq_eq_false_iff_ne.mpr c5
  have c5b1 : (tBG != tBD) = true := bne_iff_ne.mpr c5
  obtain rfl := Option.some.inj H
  go_enter Try.func14, Try.ntmps14
  go_wp2_with (first | ((with_reducible refine gate_callee (f := 38) rfl ?_); refine goesL_ (some 14) rfl rfl Try.func38 (by kernel_rfl) rfl #[.int .i64 a0, .int .i64 a1] rfl argS ?_; (with_reducible refine (spec_AverageSum.calls k a0 a1 tBD tBE tBF _ A3.out).mono ?_); rintro e w' ⟨rfl, ⟨nd, rfl⟩⟩; refine ⟨_, rfl, ?_⟩) | ((with_reducible refine gate_callee (f := 39) rfl ?_); refine goesL_ (some 21) rfl rfl Try.func39 (by kernel_rfl) rfl #[.int .i64 a0, .int .i64 a1] rfl argS ?_; (with_reducible refine (impl_AverageSum.calls k a0 a1 tBG tBH tBI _ A4.out).mono ?_); rintro e w11 ⟨rfl, hb⟩; refine ⟨_, rfl, ?_⟩; have n0_ := Aside0.mk (below_step belS hb); clear HB; revert n0_; intro HB; (try clear hb)))
  go_ret
  exact ⟨by first | rfl | (simp [errW_none, errW_some] <;> rfl) | (simp [*, errW_none, errW_some] <;> rfl), by exact belS⟩

/-- THE ONE PURE STATEMENT of laws_FnExactAverageSum: yours. -/
def laws_FnExactAverageSum.Pure : Prop := ∀ (a0 : Int) (a1 : Int), (Lit.int .i64 a0).wf = true → (Lit.int .i64 a1).wf = true → ∃ k, laws_FnExactAverageSum.f k a0 a1 = some true
theorem laws_FnExactAverageSum.walk (P : laws_FnExactAverageSum.Pure) (a0 : Int) (a1 : Int) (w : World) (w0 : (Lit.int .i64 a0).wf = true) (w1 : (Lit.int .i64 a1).wf = true) :
  Calls Try.prog 14 #[.int .i64 a0, .int .i64 a1] w fun e w' => e = .returned (.bool true) ∧ Below w.heap.size w w' := by
 obtain ⟨k, h⟩ := P a0 a1 w0 w1
 refine (laws_FnExactAverageSum.calls k a0 a1 true w h).mono ?_
 rintro e w' ⟨rfl, hd⟩
 exact ⟨rfl, hd⟩

end Go.Proofs.Yteiceakgiilbgaa.Pr
