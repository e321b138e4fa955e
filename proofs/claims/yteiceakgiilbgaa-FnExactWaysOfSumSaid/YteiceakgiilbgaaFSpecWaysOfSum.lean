-- A text of the machine side, written by wip/gen.py of this repo out of the translation. Not trusted: Lean checks it.
import Derived.Test.YteiceakgiilbgaaF0
import Derived.Test.YteiceakgiilbgaaFGB
import Derived.Test.YteiceakgiilbgaaFSpecDiAsked
import Derived.Test.YteiceakgiilbgaaFSpecDiSums
namespace Go.Proofs.Yteiceakgiilbgaa.Pr
open Go.RowKit Go.Proofs.YteiceakgiilbgaaW.PrintWords Go.Proofs.YteiceakgiilbgaaW.PrintLast Go.Proofs.YteiceakgiilbgaaW.PrintMore
attribute [local go_sem] max2_int min2_int max_two min_two max_three min_three max_four min_four   -- for this text's walks alone
set_option linter.unusedVariables false
set_option linter.unusedSimpArgs false

/-! ### spec_WaysOfSum: function 36 -/
def spec_WaysOfSum.j0 : Nat → Int → Int → Int → Bool → Option (Int × Bool)
 | 0, _, _, _, _ => none
 | k + 1, x0, x1, x2, x17 => if x17 = true then (some (0, false)) else ((spec_diSums.f k x0 x1).bind fun tBF => (if x2 ≥ (tBF.length : Int) then (some (0, true)) else (if 0 ≤ x2 then (if x2 < (tBF.length : Int) then (some (rd tBF x2, true)) else (none)) else (none))))
def spec_WaysOfSum.f (k : Nat) (a0 : Int) (a1 : Int) (a2 : Int) : Option (Int × Bool) := (spec_diAsked.f a0 a1).bind fun tBD => (if tBD = true then ((spec_l1In.f a2 0 200).bind fun tBE => (spec_WaysOfSum.j0 k a0 a1 a2 (!tBE))) else (spec_WaysOfSum.j0 k a0 a1 a2 true))
set_option maxHeartbeats 8000000 in
set_option maxRecDepth 100000 in
theorem spec_WaysOfSum.calls (k : Nat) (a0 : Int) (a1 : Int) (a2 : Int) (r1 : Int) (r2 : Bool) (w : World) (h : spec_WaysOfSum.f k a0 a1 a2 = some (r1, r2)) :
  Calls Try.prog 36 #[.int .i64 a0, .int .i64 a1, .int .i64 a2] w fun e w' => e = .returned (.tuple #[.int .i64 r1, .bool r2]) ∧ Below w.heap.size w w' := by
 have HB := Aside0.mk (Below.refl w.heap.size w)
 have H : ((spec_diAsked.f a0 a1).bind fun tBD => (if tBD = true then ((spec_l1In.f a2 0 200).bind fun tBE => (spec_WaysOfSum.j0 k a0 a1 a2 (!tBE))) else (spec_WaysOfSum.j0 k a0 a1 a2 true))) = some (r1, r2) := h
 clear h
 have HC4 := Aside0.mk H
 clear H
 go_enter Try.func36, Try.ntmps36
 go_upto_region 1 with (fail)
 go_cut [17] (fun v17 wc => ∃ (kq : Nat) (x17_3 : Bool), v17 = .bool x17_3 ∧ Aside0 (spec_WaysOfSum.j0 kq a0 a1 a2 x17_3 = some (r1, r2)) ∧ Aside0 (kq ≤ k) ∧ Aside0 (Below w.heap.size w wc))
 case first =>
  have H := HC4.out
  clear HC4
  replace H := Option.bind_eq_some_iff.mp H
  obtain ⟨tBD, A50, H⟩ := H
  replace H : (if tBD = true then ((spec_l1In.f a2 0 200).bind fun tBE => (spec_WaysOfSum.j0 k a0 a1 a2 (!tBE))) else (spec_WaysOfSum.j0 k a0 a1 a2 true)) = some (r1, r2) := H
  have A5 := Aside0.mk A50
  clear A50
  by_cases c6 : tBD = true
  ·subst c6
   have H1 : ((spec_l1In.f a2 0 200).bind fun tBE => (spec_WaysOfSum.j0 k a0 a1 a2 (!tBE))) = some (r1, r2) := by rw [if_pos rfl] at H; exact H
   clear H
   have H := H1
   clear H1
   replace H := Option.bind_eq_some_iff.mp H
   obtain ⟨tBE, A70, H⟩ := H
   replace H : (spec_WaysOfSum.j0 k a0 a1 a2 (!tBE)) = some (r1, r2) := H
   have A7 := Aside0.mk A70
   clear A70
   have H' := Aside0.mk H
   clear H
   go_wp2_with (first | ((with_reducible refine gate_callee (f := 42) rfl ?_); refine goesL_ (some 11) rfl rfl Try.func42 (by kernel_rfl) rfl #[.int .i64 a0, .int .i64 a1] rfl argS ?_; (with_reducible refine (spec_diAsked.calls a0 a1 true _ A5.out).mono ?_); rintro e w' ⟨rfl, ⟨nd, rfl⟩⟩; refine ⟨_, rfl, ?_⟩) | (go_at_call 43; (with_reducible refine (spec_l1In.calls a2 0 200 tBE _ A7.out).mono ?_); rintro e w' ⟨rfl, ⟨nd, rfl⟩⟩))
   go_meet
   case rel => exact ⟨_, (!tBE), (by first | rfl | (simp; done) | (simp [*]; done)), H', ⟨by first | omega | exact Nat.le_refl _⟩, ⟨by exact belS⟩⟩
  ·replace c6 := Bool.eq_false_iff.mpr c6
   subst c6
   have H1 : (spec_WaysOfSum.j0 k a0 a1 a2 true) = some (r1, r2) := by rw [if_neg (show ¬ (false = true) by decide)] at H; exact H
   clear H
   have H := H1
   clear H1
   have H' := Aside0.mk H
   clear H
   go_wp2_with (first | ((with_reducible refine gate_callee (f := 42) rfl ?_); refine goesL_ (some 11) rfl rfl Try.func42 (by kernel_rfl) rfl #[.int .i64 a0, .int .i64 a1] rfl argS ?_; (with_reducible refine (spec_diAsked.calls a0 a1 false _ A5.out).mono ?_); rintro e w' ⟨rfl, ⟨nd, rfl⟩⟩; refine ⟨_, rfl, ?_⟩))
   go_meet
   case rel => exact ⟨_, (true), (by first | rfl | (simp; done) | (simp [*]; done)), H', ⟨by first | omega | exact Nat.le_refl _⟩, ⟨by exact belS⟩⟩
 case rest =>
  clear HC4
  try clear p2
  try clear c3
  try clear c4
  try clear c6
  obtain ⟨kq, x17_3, rfl, HA, HJ3, HB⟩ := hcut
  cases kq with
  | zero => exact absurd HA.out (by simp [spec_WaysOfSum.j0])
  | succ kj3 =>
   have H := HA.out
   clear HA
   simp only [spec_WaysOfSum.j0] at H
   by_cases c8 : x17_3 = true
   ·subst c8
    have H1 : (some (0, false)) = some (r1, r2) := by rw [if_pos rfl] at H; exact H
    clear H
    have H := H1
    clear H1
    simp only [Option.some.injEq, Prod.mk.injEq] at H
    obtain ⟨rfl, rfl⟩ := H
    go_wp2
    go_ret2
    exact ⟨by first | rfl | (simp [errW_none, errW_some] <;> rfl) | (simp [*, errW_none, errW_some] <;> rfl), by exact belS⟩
   ·replace c8 := Bool.eq_false_iff.mpr c8
    subst c8
    have H1 : ((spec_diSums.f kj3 a0 a1).bind fun tBF => (if a2 ≥ (tBF.length : Int) then (some (0, true)) else (if 0 ≤ a2 then (if a2 < (tBF.length : Int) then (some (rd tBF a2, true)) else (none)) else (none)))) = some (r1, r2) := by rw [if_neg (show ¬ (false = true) by decide)] at H; exact H
    clear H
    have H := H1
    clear H1
    replace H := Option.bind_eq_some_iff.mp H
    obtain ⟨tBF, A90, H⟩ := H
    replace H : (if a2 ≥ (tBF.length : Int) then (some (0, true)) else (if 0 ≤ a2 then (if a2 < (tBF.length : Int) then (some (rd tBF a2, true)) else (none)) else (none))) = some (r1, r2) := H
    have A9 := Aside0.mk A90
    clear A90
    by_cases c10 : a2 ≥ (tBF.length : Int)
    ·rw [if_pos c10] at H
     have c10b0 : decide ((tBF.length : Int) ≤ a2) = true := decide_eq_true c10
     clear c10
     simp only [Option.some.injEq, Prod.mk.injEq] at H
     obtain ⟨rfl, rfl⟩ := H
     go_wp2_with (first | ((with_reducible refine gate_callee (f := 67) rfl ?_); refine goesL_ (some 20) rfl rfl Try.func67 (by kernel_rfl) rfl #[.int .i64 a0, .int .i64 a1] rfl argS ?_; (with_reducible refine (spec_diSums.calls kj3 a0 a1 tBF _ A9.out).mono ?_); rintro e w11 ⟨vBG, rfl, ho0, hb⟩; refine ⟨_, rfl, ?_⟩; have n0_ := Aside0.mk (Kd.R_lower ho0 (below_size belS)); have n1_ := Aside0.mk (below_step belS hb); clear HB; revert n0_ n1_; intro HOBH HB; (try clear hb); (try clear ho0); obtain ⟨Ao12, co12, eo12⟩ := Kd.R_slice HOBH.out; subst eo12))
     go_ret2
     exact ⟨by first | rfl | (simp [errW_none, errW_some] <;> rfl) | (simp [*, errW_none, errW_some] <;> rfl), by exact belS⟩
    ·rw [if_neg c10] at H
     have c10b0 : decide ((tBF.length : Int) ≤ a2) = false := decide_eq_false c10
     clear c10
     by_cases c13 : 0 ≤ a2
     ·rw [if_pos c13] at H
      have c13b0 : decide (0 ≤ a2) = true := decide_eq_true c13
      clear c13
      by_cases c14 : a2 < (tBF.length : Int)
      ·rw [if_pos c14] at H
       have c14b0 : decide (a2 < (tBF.length : Int)) = true := decide_eq_true c14
       clear c14
       simp only [Option.some.injEq, Prod.mk.injEq] at H
       obtain ⟨rfl, rfl⟩ := H
       go_wp2_with (first | ((with_reducible refine gate_callee (f := 67) rfl ?_); refine goesL_ (some 20) rfl rfl Try.func67 (by kernel_rfl) rfl #[.int .i64 a0, .int .i64 a1] rfl argS ?_; (with_reducible refine (spec_diSums.calls kj3 a0 a1 tBF _ A9.out).mono ?_); rintro e w15 ⟨vBG, rfl, ho0, hb⟩; refine ⟨_, rfl, ?_⟩; have n0_ := Aside0.mk (Kd.R_lower ho0 (below_size belS)); have n1_ := Aside0.mk (below_step belS hb); clear HB; revert n0_ n1_; intro HOBH HB; (try clear hb); (try clear ho0); obtain ⟨Ao16, co16, eo16⟩ := Kd.R_slice HOBH.out; subst eo16; have pBI : 0 ≤ (a2 : Int) := of_decide_eq_true (by first | (with_reducible assumption) | assumption); have qBI : a2 < (tBF.length : Int) := of_decide_eq_true (by first | (with_reducible assumption) | assumption); obtain ⟨adBI, eBI, hxBI_0⟩ := Kd.at_int (Kd.R_reads' HOBH.out).2.2 a2 pBI qBI; cases eBI; replace pBI := eq_true pBI; replace qBI := eq_true qBI))
       go_ret2
       exact ⟨by first | rfl | (simp [errW_none, errW_some] <;> rfl) | (simp [*, errW_none, errW_some] <;> rfl), by exact belS⟩
      ·rw [if_neg c14] at H
       exact absurd H (by simp)
     ·rw [if_neg c13] at H
      exact absurd H (by simp)

end Go.Proofs.Yteiceakgiilbgaa.Pr
