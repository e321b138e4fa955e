-- A text of the machine side, written by wip/gen.py of this repo out of the translation. Not trusted: Lean checks it.
import Derived.Test.YtogfijfhjdjhpaaF0
import Derived.Test.YtogfijfhjdjhpaaFImplPairFewest
import Derived.Test.YtogfijfhjdjhpaaFSpecPairFewest
namespace Go.Proofs.Ytogfijfhjdjhpaa.Pr
open Go.RowKit Go.Proofs.YtogfijfhjdjhpaaW.PrintWords Go.Proofs.YtogfijfhjdjhpaaW.PrintLast Go.Proofs.YtogfijfhjdjhpaaW.PrintMore
attribute [local go_sem] max2_int min2_int max_two min_two max_three min_three max_four min_four   -- for this text's walks alone
set_option linter.unusedVariables false
set_option linter.unusedSimpArgs false

/-! ### laws_FnExactPairFewest: function 3 -/
def laws_FnExactPairFewest.f (k : Nat) (a0 : Int) (a1 : Int) (a2 : Int) (a3 : Int) : Option (Bool) := (spec_PairFewest.f a0 a1 a2 a3).bind fun btBD => ((impl_PairFewest.f k a0 a1 a2 a3).bind fun btBF => (if btBF.1 = btBD.1 then (if (btBF.2 != btBD.2) = true then (some false) else (some true)) else (some false)))
set_option maxHeartbeats 8000000 in
set_option maxRecDepth 100000 in
theorem laws_FnExactPairFewest.calls (k : Nat) (a0 : Int) (a1 : Int) (a2 : Int) (a3 : Int) (r : Bool) (w : World) (h : laws_FnExactPairFewest.f k a0 a1 a2 a3 = some r) :
  Calls Try.prog 3 #[.int .i64 a0, .int .i64 a1, .int .i64 a2, .int .i64 a3] w fun e w' => e = .returned (.bool r) ∧ Below w.heap.size w w' := by
 have HB := Aside0.mk (Below.refl w.heap.size w)
 have H : ((spec_PairFewest.f a0 a1 a2 a3).bind fun btBD => ((impl_PairFewest.f k a0 a1 a2 a3).bind fun btBF => (if btBF.1 = btBD.1 then (if (btBF.2 != btBD.2) = true then (some false) else (some true)) else (some false)))) = some r := h
 clear h
 replace H := Option.bind_eq_some_iff.mp H
 obtain ⟨⟨tBD, tBE⟩, A50, H⟩ := H
 replace H : ((impl_PairFewest.f k a0 a1 a2 a3).bind fun btBF => (if btBF.1 = tBD then (if (btBF.2 != tBE) = true then (some false) else (some true)) else (some false))) = some r := H
 have A5 := Aside0.mk A50
 clear A50
 replace H := Option.bind_eq_some_iff.mp H
 obtain ⟨⟨tBF, tBG⟩, A60, H⟩ := H
 replace H : (if tBF = tBD then (if (tBG != tBE) = true then (some false) else (some true)) else (some false)) = some r := H
 have A6 := Aside0.mk A60
 clear A60
 by_cases c7 : tBF = tBD
 ·rw [if_pos c7] at H
  have c7b0 : (tBF == tBD) = true := beq_iff_eq.mpr c7
  have c7b1 : (tBF != tBD) = false := bne_eq_false_iff_eq.mpr c7
  clear c7
  by_cases c8 : (tBG != tBE) = true
  ·rw [if_pos c8] at H
   have c8b0 : (tBG != tBE) = true := c8
   (try (have c8b1 : decide (tBG = tBE) = false := by simpa using c8))
   (try (have c8b2 : (tBG == tBE) = false := by simpa using c8))
   (try (have c8b3 : ¬ (tBG = tBE) := by simpa using c8))
   clear c8
   obtain rfl := Option.some.inj H
   go_enter Try.func3, Try.ntmps3
   go_wp2_with (first | ((with_reducible refine gate_callee (f := 7) rfl ?_); refine goesL_ (some 18) rfl rfl Try.func7 (by kernel_rfl) rfl #[.int .i64 a0, .int .i64 a1, .int .i64 a2, .int .i64 a3] rfl argS ?_; (with_reducible refine (spec_PairFewest.calls a0 a1 a2 a3 tBD tBE _ A5.out).mono ?_); rintro e w' ⟨rfl, ⟨nd, rfl⟩⟩; refine ⟨_, rfl, ?_⟩) | ((with_reducible refine gate_callee (f := 8) rfl ?_); refine goesL_ (some 26) rfl rfl Try.func8 (by kernel_rfl) rfl #[.int .i64 a0, .int .i64 a1, .int .i64 a2, .int .i64 a3] rfl argS ?_; (with_reducible refine (impl_PairFewest.calls k a0 a1 a2 a3 tBF tBG _ A6.out).mono ?_); rintro e w9 ⟨rfl, hb⟩; refine ⟨_, rfl, ?_⟩; have n0_ := Aside0.mk (below_step belS hb); clear HB; revert n0_; intro HB; (try clear hb)))
   go_ret
   exact ⟨by first | rfl | (simp [errW_none, errW_some] <;> rfl) | (simp [*, errW_none, errW_some] <;> rfl), by exact belS⟩
  ·rw [if_neg c8] at H
   have c8b0 : (tBG != tBE) = false := by simpa using c8
   (try (have c8b1 : decide (tBG = tBE) = true := by simpa using c8))
   (try (have c8b2 : (tBG == tBE) = true := by simpa using c8))
   clear c8
   obtain rfl := Option.some.inj H
   go_enter Try.func3, Try.ntmps3
   go_wp2_with (first | ((with_reducible refine gate_callee (f := 7) rfl ?_); refine goesL_ (some 18) rfl rfl Try.func7 (by kernel_rfl) rfl #[.int .i64 a0, .int .i64 a1, .int .i64 a2, .int .i64 a3] rfl argS ?_; (with_reducible refine (spec_PairFewest.calls a0 a1 a2 a3 tBD tBE _ A5.out).mono ?_); rintro e w' ⟨rfl, ⟨nd, rfl⟩⟩; refine ⟨_, rfl, ?_⟩) | ((with_reducible refine gate_callee (f := 8) rfl ?_); refine goesL_ (some 26) rfl rfl Try.func8 (by kernel_rfl) rfl #[.int .i64 a0, .int .i64 a1, .int .i64 a2, .int .i64 a3] rfl argS ?_; (with_reducible refine (impl_PairFewest.calls k a0 a1 a2 a3 tBF tBG _ A6.out).mono ?_); rintro e w10 ⟨rfl, hb⟩; refine ⟨_, rfl, ?_⟩; have n0_ := Aside0.mk (below_step belS hb); clear HB; revert n0_; intro HB; (try clear hb)))
   go_ret
   exact ⟨by first | rfl | (simp [errW_none, errW_some] <;> rfl) | (simp [*, errW_none, errW_some] <;> rfl), by exact belS⟩
 ·rw [if_neg c7] at H
  have c7b0 : (tBF == tBD) = false := beq_eq_false_iff_ne.mpr c7
  have c7b1 : (tBF != tBD) = true := bne_iff_ne.mpr c7
  obtain rfl := Option.some.inj H
  go_enter Try.func3, Try.ntmps3
  go_wp2_with (first | ((with_reducible refine gate_callee (f := 7) rfl ?_); refine goesL_ (some 18) rfl rfl Try.func7 (by kernel_rfl) rfl #[.int .i64 a0, .int .i64 a1, .int .i64 a2, .int .i64 a3] rfl argS ?_; (with_reducible refine (spec_PairFewest.calls a0 a1 a2 a3 tBD tBE _ A5.out).mono ?_); rintro e w' ⟨rfl, ⟨nd, rfl⟩⟩; refine ⟨_, rfl, ?_⟩) | ((with_reducible refine gate_callee (f := 8) rfl ?_); refine goesL_ (some 26) rfl rfl Try.func8 (by kernel_rfl) rfl #[.int .i64 a0, .int .i64 a1, .int .i64 a2, .int .i64 a3] rfl argS ?_; (with_reducible refine (impl_PairFewest.calls k a0 a1 a2 a3 tBF tBG _ A6.out).mono ?_); rintro e w11 ⟨rfl, hb⟩; refine ⟨_, rfl, ?_⟩; have n0_ := Aside0.mk (below_step belS hb); clear HB; revert n0_; intro HB; (try clear hb)))
  go_ret
  exact ⟨by first | rfl | (simp [errW_none, errW_some] <;> rfl) | (simp [*, errW_none, errW_some] <;> rfl), by exact belS⟩

/-- THE ONE PURE STATEMENT of laws_FnExactPairFewest: yours. -/
def laws_FnExactPairFewest.Pure : Prop := ∀ (a0 : Int) (a1 : Int) (a2 : Int) (a3 : Int), (Lit.int .i64 a0).wf = true → (Lit.int .i64 a1).wf = true → (Lit.int .i64 a2).wf = true → (Lit.int .i64 a3).wf = true → ∃ k, laws_FnExactPairFewest.f k a0 a1 a2 a3 = some true
theorem laws_FnExactPairFewest.walk (P : laws_FnExactPairFewest.Pure) (a0 : Int) (a1 : Int) (a2 : Int) (a3 : Int) (w : World) (w0 : (Lit.int .i64 a0).wf = true) (w1 : (Lit.int .i64 a1).wf = true) (w2 : (Lit.int .i64 a2).wf = true) (w3 : (Lit.int .i64 a3).wf = true) :
  Calls Try.prog 3 #[.int .i64 a0, .int .i64 a1, .int .i64 a2, .int .i64 a3] w fun e w' => e = .returned (.bool true) ∧ Below w.heap.size w w' := by
 obtain ⟨k, h⟩ := P a0 a1 a2 a3 w0 w1 w2 w3
 refine (laws_FnExactPairFewest.calls k a0 a1 a2 a3 true w h).mono ?_
 rintro e w' ⟨rfl, hd⟩
 exact ⟨rfl, hd⟩

end Go.Proofs.Ytogfijfhjdjhpaa.Pr
